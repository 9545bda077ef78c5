import PyProof.Rows.All
import Wide.All
import OpenK.AllK
import Wide.FinOn
import HandS.ForMost
import HandS.More
import HandS.Wide
import HandS.Gcd
import HandS.IsInst
import HandS.TupAny
import HandS.TupMul
import HandS.Conv
import HandS.Flow
import HandS.Style
import HandS.Defaults
import HandS.WordsExc
import HandS.Lambda
import HandS.OwnEq
import HandS.MakeKwOnly
import HandS.MakeKw
import HandS.New0
import HandS.New
import HandS.CallLocal
import PyProof.Rows.ReprR
import PyProof.FString2
import PyProof.FactsAll.NoneType_2
import HandS.RaiseMore
import HandS.Small
import HandS.WideBits
import HandS.NoneIn
import PyProof.FactsAll.list_0
import PyProof.FactsAll.list_3
import KE.KStateDown
import HandS.Head0
import HandS.Head1
import HandS.Head2
import HandS.Head3
import HandS.HeadEnd
import HandS.HeadHook1
import HandS.HeadHook2
import HandS.EndBits
import PySem.Challenge.RW_beampapers_k90_classes_made_by_hand
set_option Elab.async false
set_option linter.all false
set_option maxRecDepth 100000
set_option maxHeartbeats 4000000
/-! PV: a small evaluator of the Python that these programs are written in. -/
namespace PV
open PySem L2

/-- data: tuples are values; lists, dicts, instances stand in a store at a number -/
inductive D where
  | non | bl (b : Bool) | int (i : Int) | str (x : Str) | tup (ds : List D) | loc (n : Nat) | glb (x : Str) | ty (n : String) | lam (i : Nat)
mutual
def D.same : D → D → Bool
  | .non, .non => true
  | .bl a, .bl b => decide (a = b)
  | .int a, .int b => decide (a = b)
  | .str a, .str b => decide (a = b)
  | .tup a, .tup b => Ds.same a b
  | .loc a, .loc b => decide (a = b)
  | .glb a, .glb b => decide (a = b)
  | .ty a, .ty b => decide (a = b)
  | .lam a, .lam b => decide (a = b)
  | _, _ => false
def Ds.same : List D → List D → Bool
  | [], [] => true
  | x :: xs, y :: ys => D.same x y && Ds.same xs ys
  | _, _ => false
end
mutual
theorem D.same_iff : ∀ a b : D, D.same a b = true ↔ a = b
  | .non, b => by cases b <;> simp [D.same]
  | .bl _, b => by cases b <;> simp [D.same]
  | .int _, b => by cases b <;> simp [D.same]
  | .str _, b => by cases b <;> simp [D.same]
  | .tup a, b => by
    cases b with
    | tup b => rw [D.same, Ds.same_iff a b]; exact ⟨fun h => by rw [h], fun h => by injection h⟩
    | _ => simp [D.same]
  | .loc _, b => by cases b <;> simp [D.same]
  | .glb _, b => by cases b <;> simp [D.same]
  | .ty _, b => by cases b <;> simp [D.same]
  | .lam _, b => by cases b <;> simp [D.same]
theorem Ds.same_iff : ∀ a b : List D, Ds.same a b = true ↔ a = b
  | [], b => by cases b <;> simp [Ds.same]
  | x :: xs, b => by
    cases b with
    | nil => simp [Ds.same]
    | cons y ys => rw [Ds.same, Bool.and_eq_true, D.same_iff x y, Ds.same_iff xs ys]; exact ⟨fun ⟨h1, h2⟩ => by rw [h1, h2], fun h => by injection h with h1 h2; exact ⟨h1, h2⟩⟩
end
instance : DecidableEq D := fun a b => if h : D.same a b = true then .isTrue ((D.same_iff a b).mp h) else .isFalse fun e => h ((D.same_iff a b).mpr e)

/-- what stands in the store -/
inductive O where
  | lst (ds : List D) | frz (ds : List D) | dct (kvs : List (Key × D)) | ins (c : Str) (fs : List (Str × D))
  deriving DecidableEq

abbrev Sto := List O
inductive Res (α : Type) where
  | ok (a : α) (S : Sto) | bad

def Res.bind {α β : Type} (r : Res α) (f : α → Sto → Res β) : Res β := match r with
  | .ok a S => f a S
  | .bad => .bad
@[simp] theorem Res.bind_ok {α β : Type} (a : α) (S : Sto) (f : α → Sto → Res β) : (Res.ok a S).bind f = f a S := rfl
@[simp] theorem Res.bind_bad {α β : Type} (f : α → Sto → Res β) : (Res.bad : Res α).bind f = .bad := rfl

inductive Prim where
  | len | tuple | list | abs | max2 | int | isi | repr | gcd | all | any | bool
  deriving DecidableEq
inductive Mth where
  | append | popAt | bitlen
  deriving DecidableEq

mutual
inductive E where
  | var (i : Nat) | lit (d : D) | glob (x : Str)
  | bin (op : Operator) (a b : E) | neg (a : E) | not (a : E) | and (a b : E) | or (a b : E) | ite (c a b : E)
  | cmp (op : CmpOp) (a b : E) | isN (p : Bool) (a : E)
  | tup (es : Es) | lst (es : Es) | dict (ks : List Str) (es : Es)
  | fld (a : E) (f : Str) | idx (a i : E) | slc (a : E) (lo hi : Oe) | rev (a : E)
  | prim (p : Prim) (es : Es) | mth (m : Mth) (o : E) (es : Es)
  | call (f : Str) (es : Es) | make (c : Str) (es : Es) | makeK (c : Str) (es : Es) (n : Nat) (perm : List Nat) | callv (f : Nat) (es : Es) | lam (i : Nat)
  | comp (own : List Nat) (tg : T) (it : I) (cond : Oe) (elt : E)
inductive Es where
  | nil | cons (e : E) (es : Es)
inductive Oe where
  | none | some (e : E)
inductive I where
  | seq (e : E) | range1 (es : Es) | range2 (es : Es) | zip (is : Is) | enum (i : I) | revd (e : E)
inductive Is where
  | nil | cons (i : I) (is : Is)
inductive T where
  | var (i : Nat) | tup (ts : Ts) | sub (o i : E) | fld (o : E) (f : Str)
inductive Ts where
  | nil | cons (t : T) (ts : Ts)
end

mutual
inductive C where
  | pass | expr (e : E) | asg (t : T) (e : E) | aug (i : Nat) (op : Operator) (e : E) | ret (e : Oe)
  | iff (c : E) (a b : Cs) | for (t : T) (it : I) (b : Cs) | while (c : E) (b : Cs) | brk | cont | never
inductive Cs where
  | nil | cons (c : C) (cs : Cs)
end

/-! ### values -/
def listOf (S : Sto) : D → Option (List D)
  | .loc n => match S[n]? with
    | some (.lst ds) => some ds
    | some (.frz ds) => some ds
    | _ => none
  | _ => none
def seqOf (S : Sto) : D → Option (List D)
  | .tup ds => some ds
  | d => listOf S d
def flat : D → Bool
  | .non => true | .bl _ => true | .int _ => true | .str _ => true | _ => false
def flatEq : D → D → Bool
  | .non, .non => true
  | .bl a, .bl b => a == b
  | .bl a, .int b => (if a then 1 else 0) == b
  | .int a, .bl b => a == (if b then 1 else 0)
  | .int a, .int b => a == b
  | .str a, .str b => a == b
  | _, _ => false
/-- as data of the library -/
def toPy (S : Sto) : Nat → D → Option PyData
  | 0, _ => none
  | n + 1, d => match d with
    | .non => some .none
    | .bl b => some (.bool b)
    | .int i => some (.int i)
    | .str x => some (.str x)
    | .tup ds => (ds.mapM (toPy S n)).map .tuple
    | .loc m => match listOf S (.loc m) with
      | some ds => (ds.mapM (toPy S n)).map .list
      | none => none
    | _ => none
def eqD (S : Sto) (x y : D) : Option Bool := match toPy S 12 x, toPy S 12 y with
  | some a, some b => if SeqAt.shaped a = true ∧ SeqAt.shaped b = true then some (PyData.eqv a b) else none
  | _, _ => none
def mostLen : Nat := 100000
def mulOk (i j : Int) : Prop := i.natAbs.log2 + j.natAbs.log2 < 500000
instance (i j : Int) : Decidable (mulOk i j) := by unfold mulOk; infer_instance
def divOk (j : Int) : Prop := j ≠ 0 ∧ j.natAbs.log2 < 9000
instance (j : Int) : Decidable (divOk j) := by unfold divOk; infer_instance
def powOk (i j : Int) : Prop := 0 ≤ j ∧ j ≤ 1000000 ∧ i.natAbs < 2 ^ 64
instance (i j : Int) : Decidable (powOk i j) := by unfold powOk; infer_instance

def newO (o : O) (S : Sto) : Res D := .ok (.loc S.length) (S ++ [o])
def binD (op : Operator) (x y : D) (S : Sto) : Res D := match op, x, y with
  | .Add, .int a, .int b => .ok (.int (a + b)) S
  | .Add, .str a, .str b => if a.length + b.length ≤ mostLen then .ok (.str (a ++ b)) S else .bad
  | .Add, .tup a, .tup b => if a.length + b.length ≤ mostLen then .ok (.tup (a ++ b)) S else .bad
  | .Add, .loc m, .loc n => (match S[m]?, S[n]? with
    | some (.lst a), some (.lst b) => if a.length + b.length ≤ mostLen then newO (.lst (a ++ b)) S else .bad
    | _, _ => .bad)
  | .Sub, .int a, .int b => .ok (.int (a - b)) S
  | .Mult, .int a, .int b => if mulOk a b then .ok (.int (a * b)) S else .bad
  | .Mult, .tup a, .int k => if a ≠ [] ∧ 2 ≤ k ∧ k ≤ 1000 ∧ a.length ≤ 1000 then .ok (.tup (List.replicate k.toNat a).flatten) S else .bad
  | .Mult, .loc m, .int k => (match S[m]? with
    | some (.lst a) => if 0 ≤ k ∧ k ≤ 1000 ∧ a.length ≤ 100 then newO (.lst (List.replicate k.toNat a).flatten) S else .bad
    | _ => .bad)
  | .FloorDiv, .int a, .int b => if divOk b then .ok (.int (a.fdiv b)) S else .bad
  | .Mod, .int a, .int b => if b ≠ 0 then .ok (.int (a.fmod b)) S else .bad
  | .Pow, .int a, .int b => if powOk a b then .ok (.int (a ^ b.toNat)) S else .bad
  | _, _, _ => .bad
def inD (x y : D) (S : Sto) : Option Bool := match seqOf S y with
  | some ds => if flat x = true ∧ ds.all flat = true then some (ds.any fun d => flatEq d x) else none
  | none => none
/-- the type of a value: a built-in one's name, or an own class -/
def tyD (S : Sto) : D → Option (Sum String Str)
  | .non => some (.inl "NoneType") | .bl _ => some (.inl "bool") | .int _ => some (.inl "int") | .str _ => some (.inl "str") | .tup _ => some (.inl "tuple")
  | .loc n => (match S[n]? with
    | some (.lst _) => some (.inl "list") | some (.frz _) => some (.inl "list") | some (.dct _) => some (.inl "dict") | some (.ins c _) => some (.inr c) | none => none)
  | _ => none
/-- an instance's class -/
def insOf (S : Sto) : D → Option Str
  | .loc n => (match S[n]? with | some (.ins c _) => some c | _ => none)
  | _ => none
/-- x == y by x's own class: y's type is known -/
def ownCmp (call : Str → Str → List D → Sto → Res D) (cls : Str → Bool) (m c : Str) (x y : D) (S : Sto) : Res D := match tyD S y with
  | some (.inl _) => if cls c = true then call c m [x, y] S else .bad
  | some (.inr c') => if cls c = true ∧ cls c' = true then call c m [x, y] S else .bad
  | none => .bad
def cmpD (call : Str → Str → List D → Sto → Res D) (cls : Str → Bool) (op : CmpOp) (x y : D) (S : Sto) : Res D := match op with
  | .Eq => (match insOf S x with
    | some c => ownCmp call cls "__eq__" c x y S
    | none => (match eqD S x y with | some b => .ok (.bl b) S | none => .bad))
  | .NotEq => (match insOf S x with
    | some c => ownCmp call cls "__ne__" c x y S
    | none => (match eqD S x y with | some b => .ok (.bl (!b)) S | none => .bad))
  | .Lt => (match x, y with | .int a, .int b => .ok (.bl (decide (a < b))) S | _, _ => .bad)
  | .LtE => (match x, y with | .int a, .int b => .ok (.bl (decide (a ≤ b))) S | _, _ => .bad)
  | .Gt => (match x, y with | .int a, .int b => .ok (.bl (decide (b < a))) S | _, _ => .bad)
  | .GtE => (match x, y with | .int a, .int b => .ok (.bl (decide (b ≤ a))) S | _, _ => .bad)
  | .In => (match inD x y S with | some b => .ok (.bl b) S | none => .bad)
  | .NotIn => (match inD x y S with | some b => .ok (.bl (!b)) S | none => .bad)
  | _ => .bad
def isNon : D → Bool | .non => true | _ => false
def keyOf : D → Option Key
  | .int i => some (.inl i) | .str x => some (.inr x) | _ => none
def valD (kvs : List (Key × D)) (k : Key) : Option D := (kvs.find? fun kv => decide (kv.1 = k)).map (·.2)
def putD (kvs : List (Key × D)) (k : Key) (v : D) : List (Key × D) :=
  if (kvs.any fun kv => decide (kv.1 = k)) = true then kvs.map (fun kv => if kv.1 = k then (kv.1, v) else kv) else kvs ++ [(k, v)]
def putFD (f : Str) (v : D) : List (Str × D) → List (Str × D)
  | [] => [(f, v)]
  | (g, x) :: r => if g = f then (g, v) :: r else (g, x) :: putFD f v r
def idxD (x i : D) (S : Sto) : Res D := match x with
  | .tup ds => (match i with
    | .int k => (match atI ds k with | some v => .ok v S | none => .bad)
    | _ => .bad)
  | .loc n => (match S[n]? with
    | some (.lst ds) => (match i with
      | .int k => (match atI ds k with | some v => .ok v S | none => .bad)
      | _ => .bad)
    | some (.dct kvs) => (match keyOf i with
      | some k => (match valD kvs k with | some v => .ok v S | none => .bad)
      | none => .bad)
    | _ => .bad)
  | _ => .bad
/-- a slice: tuples give tuples, lists new lists -/
def cutD (xs : List D) (lo hi : Option Int) : List D := (xs.drop (HT.sIx xs.length 0 lo)).take (HT.sIx xs.length xs.length hi - HT.sIx xs.length 0 lo)
def slcD (x : D) (lo hi : Option Int) (S : Sto) : Res D := match x with
  | .tup ds => .ok (.tup (cutD ds lo hi)) S
  | .loc n => (match S[n]? with
    | some (.lst ds) => newO (.lst (cutD ds lo hi)) S
    | _ => .bad)
  | _ => .bad
def revD (x : D) (S : Sto) : Res D := match x with
  | .loc n => (match S[n]? with
    | some (.lst ds) => newO (.lst ds.reverse) S
    | _ => .bad)
  | _ => .bad
def fldD (attr : Str → Str → Bool) (x : D) (f : Str) (S : Sto) : Res D := match x with
  | .loc n => (match S[n]? with
    | some (.ins c fs) => if attr c f = true then (match fs.lookup f with | some v => .ok v S | none => .bad) else .bad
    | _ => .bad)
  | _ => .bad
/-- the classes that isinstance is asked of -/
def tyNames : List String := ["NoneType", "bool", "int", "str", "tuple", "list", "dict"]
def isa (cls : Str → Bool) (t : Sum String Str) : D → Option Bool
  | .ty n => if tyNames.contains n = true then (match t with
    | .inl a => some (a == n || (a == "bool" && n == "int"))
    | .inr d => if cls d = true then some false else none) else none
  | .glb c => if cls c = true then (match t with
    | .inl _ => some false
    | .inr d => if cls d = true then some (decide (d = c)) else none) else none
  | _ => none
def isas (cls : Str → Bool) (t : Sum String Str) : List D → Option Bool
  | [] => (match t with | .inl _ => some false | .inr c => if cls c = true then some false else none)
  | d :: r => match isa cls t d, isas cls t r with
    | some a, some b => some (a || b)
    | _, _ => none
def allB : List D → Option (List Bool)
  | [] => some []
  | .bl b :: r => (allB r).map (b :: ·)
  | _ => none
def lenP (vs : List D) (S : Sto) : Res D := match vs with
  | [x] => (match seqOf S x with | some ds => .ok (.int ds.length) S | none => .bad)
  | _ => .bad
def tupleP (vs : List D) (S : Sto) : Res D := match vs with
  | [x] => (match seqOf S x with | some ds => .ok (.tup ds) S | none => .bad)
  | _ => .bad
def listP (vs : List D) (S : Sto) : Res D := match vs with
  | [x] => (match seqOf S x with | some ds => newO (.lst ds) S | none => .bad)
  | _ => .bad
def absP (vs : List D) (S : Sto) : Res D := match vs with
  | [.int i] => .ok (.int (if i < 0 then -i else i)) S
  | _ => .bad
def maxP (vs : List D) (S : Sto) : Res D := match vs with
  | [.int i, .int j] => .ok (.int (if j > i then j else i)) S
  | _ => .bad
def intP (vs : List D) (S : Sto) : Res D := match vs with
  | [.int i] => .ok (.int i) S
  | [.bl b] => .ok (.int (if b then 1 else 0)) S
  | _ => .bad
def boolP (vs : List D) (S : Sto) : Res D := match vs with
  | [.int i] => .ok (.bl (i != 0)) S
  | [.bl b] => .ok (.bl b) S
  | _ => .bad
def isiP (cls : Str → Bool) (vs : List D) (S : Sto) : Res D := match vs with
  | [x, c] => (match tyD S x with
    | some t => (match c with
      | .tup cs => (match isas cls t cs with | some b => .ok (.bl b) S | none => .bad)
      | c => (match isa cls t c with | some b => .ok (.bl b) S | none => .bad))
    | none => .bad)
  | _ => .bad
def reprP (rp : Bool) (vs : List D) (S : Sto) : Res D := match vs with
  | [x] => if rp = true then (match toPy S 12 x with
    | some d => if d.showable = true ∧ d.hasDict = false ∧ d.depth ≤ 20 ∧ d.shown.length ≤ mostLen then .ok (.str d.shown) S else .bad
    | none => .bad) else .bad
  | _ => .bad
def gcdP (gc : Bool) (vs : List D) (S : Sto) : Res D := match vs with
  | [.int a, .int b] => if gc = true then .ok (.int (Nat.gcd a.natAbs b.natAbs : Nat)) S else .bad
  | _ => .bad
def allP (vs : List D) (S : Sto) : Res D := match vs with
  | [x] => (match listOf S x with
    | some ds => (match allB ds with | some bs => .ok (.bl (bs.all id)) S | none => .bad)
    | none => .bad)
  | _ => .bad
def anyP (vs : List D) (S : Sto) : Res D := match vs with
  | [x] => (match listOf S x with
    | some ds => (match allB ds with | some bs => .ok (.bl (bs.any id)) S | none => .bad)
    | none => .bad)
  | _ => .bad
def primD (cls : Str → Bool) (gc rp : Bool) (p : Prim) (vs : List D) (S : Sto) : Res D := match p with
  | .len => lenP vs S
  | .tuple => tupleP vs S
  | .list => listP vs S
  | .abs => absP vs S
  | .max2 => maxP vs S
  | .int => intP vs S
  | .bool => boolP vs S
  | .isi => isiP cls vs S
  | .repr => reprP rp vs S
  | .gcd => gcdP gc vs S
  | .all => allP vs S
  | .any => anyP vs S
/-- the receiver's kind, seen ahead of the arguments -/
def mthOk (m : Mth) (x : D) (S : Sto) : Bool := match m, x with
  | .bitlen, .int _ => true
  | .bitlen, _ => false
  | _, .loc n => (match S[n]? with | some (.lst _) => true | _ => false)
  | _, _ => false
def appendM (o : D) (vs : List D) (S : Sto) : Res D := match o, vs with
  | .loc n, [v] => (match S[n]? with
    | some (.lst ds) => if ds.length < mostLen then .ok .non (S.set n (.lst (ds ++ [v]))) else .bad
    | _ => .bad)
  | _, _ => .bad
def popAtM (o : D) (vs : List D) (S : Sto) : Res D := match o, vs with
  | .loc n, [.int i] => (match S[n]? with
    | some (.lst ds) => if 0 ≤ i ∧ i < 100000 then (match ds[i.toNat]? with
      | some v => .ok v (S.set n (.lst (ds.eraseIdx i.toNat)))
      | none => .bad) else .bad
    | _ => .bad)
  | _, _ => .bad
def bitlenM (o : D) (vs : List D) (S : Sto) : Res D := match o, vs with
  | .int i, [] => .ok (.int (Builtin.Int.intBits i : Nat)) S
  | _, _ => .bad
def mthD (m : Mth) (o : D) (vs : List D) (S : Sto) : Res D := match m with
  | .append => appendM o vs S
  | .popAt => popAtM o vs S
  | .bitlen => bitlenM o vs S

/-! ### the run -/
abbrev En := List (Option D)
/-- lists that are walked and must stay as they are -/
abbrev Gd := List (Nat × List D)
def stay (S : Sto) : Gd → Bool
  | [] => true
  | (n, ds) :: r => (decide (S[n]? = some (.lst ds)) || decide (S[n]? = some (.frz ds))) && stay S r
def wipe (σ : En) : List Nat → En
  | [] => σ
  | v :: vs => (wipe σ vs).set v none
/-- what the lambdas are: their qualified name and text; the functions that hold them -/
structure Lx where
  src : List (Str × Arguments × Expr × Scope)
  tab : List Str
/-- how functions, classes and globals answer -/
structure Sem where
  call : Str → List D → Sto → Res D
  mcall : Str → Str → List D → Sto → Res D
  make : Str → List D → Sto → Res D
  lam : Nat → List D → Sto → Res D
  glob : Str → Option D
  attr : Str → Str → Bool
  cls : Str → Bool
  gc : Bool
  rp : Bool
  here : Option Str
  L : Lx
  /-- the places of keywords -/
  perm : Str → List Str → Option (List Nat)

inductive Fl where
  | nx (σ : En) | ret (d : D) | bk (σ : En) | ct (σ : En)

def zipItems : List (List D) → List (List D)
  | [] => []
  | [xs] => xs.map fun x => [x]
  | xs :: r => List.zipWith (fun x t => x :: t) xs (zipItems r)
def enumItems : Nat → List D → List D
  | _, [] => []
  | n, x :: r => .tup [.int n, x] :: enumItems (n + 1) r
def rangeItems (lo : Int) (n : Nat) : List D := (List.range n).map fun i => .int (lo + (i : Nat))

/-- the turns of a comprehension: f gives what a turn adds -/
def compGo (f : D → Sto → Res (List D)) (g : Gd) : List D → List D → Sto → Res (List D)
  | [], acc, S => if stay S g then .ok acc S else .bad
  | x :: r, acc, S => if stay S g then (f x S).bind fun more S1 => if acc.length < mostLen then compGo f g r (acc ++ more) S1 else .bad else .bad
/-- the turns of a for: f x σ S -/
def forGo (f : D → En → Sto → Res Fl) (g : Gd) : List D → En → Sto → Res Fl
  | [], σ, S => if stay S g then .ok (.nx σ) S else .bad
  | x :: r, σ, S => if stay S g then (f x σ S).bind fun fl S1 => match fl with
      | .nx σ1 => forGo f g r σ1 S1
      | .ct σ1 => forGo f g r σ1 S1
      | .bk σ1 => .ok (.nx σ1) S1
      | .ret d => .ok (.ret d) S1 else .bad
def whileGo (c : En → Sto → Res D) (f : En → Sto → Res Fl) : Nat → En → Sto → Res Fl
  | 0, _, _ => .bad
  | n + 1, σ, S => (c σ S).bind fun b S1 => match b with
    | .bl true => (f σ S1).bind fun fl S2 => match fl with
      | .nx σ1 => whileGo c f n σ1 S2
      | .ct σ1 => whileGo c f n σ1 S2
      | .bk σ1 => .ok (.nx σ1) S2
      | .ret d => .ok (.ret d) S2
    | .bl false => .ok (.nx σ) S1
    | _ => .bad

section
variable (M : Sem)
mutual
def evE : E → En → Sto → Res D
  | .var i, σ, S => match σ[i]? with | some (some v) => .ok v S | _ => .bad
  | .lit d, _, S => .ok d S
  | .glob x, _, S => match M.glob x with | some d => .ok d S | none => .bad
  | .bin op a b, σ, S => (evE a σ S).bind fun x S1 => (evE b σ S1).bind fun y S2 => binD op x y S2
  | .neg a, σ, S => (evE a σ S).bind fun x S1 => match x with | .int i => .ok (.int (-i)) S1 | _ => .bad
  | .not a, σ, S => (evE a σ S).bind fun x S1 => match x with | .bl b => .ok (.bl (!b)) S1 | _ => .bad
  | .and a b, σ, S => (evE a σ S).bind fun x S1 => match x with | .bl true => evE b σ S1 | .bl false => .ok (.bl false) S1 | _ => .bad
  | .or a b, σ, S => (evE a σ S).bind fun x S1 => match x with | .bl true => .ok (.bl true) S1 | .bl false => evE b σ S1 | _ => .bad
  | .ite c a b, σ, S => (evE c σ S).bind fun x S1 => match x with | .bl true => evE a σ S1 | .bl false => evE b σ S1 | _ => .bad
  | .cmp op a b, σ, S => (evE a σ S).bind fun x S1 => (evE b σ S1).bind fun y S2 => cmpD M.mcall M.cls op x y S2
  | .isN p a, σ, S => (evE a σ S).bind fun x S1 => .ok (.bl (isNon x == p)) S1
  | .tup es, σ, S => (evEs es σ S).bind fun vs S1 => if vs.length ≤ mostLen then .ok (.tup vs) S1 else .bad
  | .lst es, σ, S => (evEs es σ S).bind fun vs S1 => if vs.length ≤ mostLen then newO (.lst vs) S1 else .bad
  | .dict ks es, σ, S => (evEs es σ S).bind fun vs S1 => if ks.length = vs.length ∧ vs.length ≤ 15 then newO (.dct ((ks.zip vs).foldl (fun acc kv => putD acc (.inr kv.1) kv.2) [])) S1 else .bad
  | .fld a f, σ, S => (evE a σ S).bind fun x S1 => fldD M.attr x f S1
  | .idx a i, σ, S => (evE a σ S).bind fun x S1 => (evE i σ S1).bind fun y S2 => idxD x y S2
  | .slc a lo hi, σ, S => (evE a σ S).bind fun x S1 => (evOe lo σ S1).bind fun l S2 => (evOe hi σ S2).bind fun h S3 => slcD x l h S3
  | .rev a, σ, S => (evE a σ S).bind fun x S1 => revD x S1
  | .prim p es, σ, S => (evEs es σ S).bind fun vs S1 => primD M.cls M.gc M.rp p vs S1
  | .mth m o es, σ, S => (evE o σ S).bind fun x S1 => if mthOk m x S1 = true then (evEs es σ S1).bind fun vs S2 => mthD m x vs S2 else .bad
  | .call f es, σ, S => (evEs es σ S).bind fun vs S1 => M.call f vs S1
  | .make c es, σ, S => (evEs es σ S).bind fun vs S1 => M.make c vs S1
  | .makeK c es n perm, σ, S => (evEs es σ S).bind fun vs S1 => if vs.length = n then M.make c (perm.filterMap fun i => vs[i]?) S1 else .bad
  | .callv i es, σ, S => (match σ[i]? with
    | some (some (.glb f)) => (evEs es σ S).bind fun vs S1 => M.call f vs S1
    | some (some (.lam j)) => (evEs es σ S).bind fun vs S1 => M.lam j vs S1
    | _ => .bad)
  | .lam i, _, S => .ok (.lam i) S
  | .comp own tg it cond elt, σ, S => (evI it σ S).bind fun (xs, g) S1 =>
      (compGo (fun x S => (asT tg x (wipe σ own) S).bind fun σ1 S1 => (evC cond σ1 S1).bind fun b S2 => match b with
        | true => (evE elt σ1 S2).bind fun v S3 => .ok [v] S3
        | false => .ok [] S2) g xs [] S1).bind fun acc S2 => newO (.lst acc) S2
def evEs : Es → En → Sto → Res (List D)
  | .nil, _, S => .ok [] S
  | .cons e es, σ, S => (evE e σ S).bind fun v S1 => (evEs es σ S1).bind fun vs S2 => .ok (v :: vs) S2
/-- a slice's end -/
def evOe : Oe → En → Sto → Res (Option Int)
  | .none, _, S => .ok none S
  | .some e, σ, S => (evE e σ S).bind fun x S1 => match x with | .int i => .ok (some i) S1 | _ => .bad
/-- a clause's test -/
def evC : Oe → En → Sto → Res Bool
  | .none, _, S => .ok true S
  | .some e, σ, S => (evE e σ S).bind fun x S1 => match x with | .bl b => .ok b S1 | _ => .bad
def evI : I → En → Sto → Res (List D × Gd)
  | .seq e, σ, S => (evE e σ S).bind fun x S1 => match x with
    | .tup ds => .ok (ds, []) S1
    | .loc n => (match listOf S1 (.loc n) with | some ds => .ok (ds, [(n, ds)]) S1 | none => .bad)
    | _ => .bad
  | .range1 es, σ, S => (evEs es σ S).bind fun vs S1 => match vs with
    | [.int b] => if b ≤ 1000000 ∧ -1000000 ≤ b then .ok (rangeItems 0 b.toNat, []) S1 else .bad
    | _ => .bad
  | .range2 es, σ, S => (evEs es σ S).bind fun vs S1 => match vs with
    | [.int a, .int b] => if b ≤ 1000000 ∧ -1000000 ≤ b ∧ a ≤ 1000000 ∧ -1000000 ≤ a then .ok (rangeItems a (b - a).toNat, []) S1 else .bad
    | _ => .bad
  | .zip is, σ, S => (evIs is σ S).bind fun (xss, g) S1 => .ok ((zipItems xss).map .tup, g) S1
  | .enum i, σ, S => (evI i σ S).bind fun (xs, g) S1 => .ok (enumItems 0 xs, g) S1
  | .revd e, σ, S => (evE e σ S).bind fun x S1 => match x with
    | .tup ds => .ok (ds.reverse, []) S1
    | .loc n => (match listOf S1 (.loc n) with | some ds => .ok (ds.reverse, [(n, ds)]) S1 | none => .bad)
    | _ => .bad
def evIs : Is → En → Sto → Res (List (List D) × Gd)
  | .nil, _, S => .ok ([], []) S
  | .cons i is, σ, S => (evI i σ S).bind fun (xs, g) S1 => (evIs is σ S1).bind fun (xss, h) S2 => .ok (xs :: xss, g ++ h) S2
/-- a store to a target -/
def asT : T → D → En → Sto → Res En
  | .var i, v, σ, S => if i < σ.length then .ok (σ.set i (some v)) S else .bad
  | .tup ts, v, σ, S => (match seqOf S v with
    | some ds => asTs ts ds σ S
    | none => .bad)
  | .sub o i, v, σ, S => (evE o σ S).bind fun x S1 => (evE i σ S1).bind fun y S2 => match x with
    | .loc n => (match S2[n]? with
      | some (.lst ds) => (match y with
        | .int k => (match ixN ds.length k with | some j => .ok σ (S2.set n (.lst (ds.set j v))) | none => .bad)
        | _ => .bad)
      | some (.dct kvs) => (match keyOf y with
        | some k => if kvs.length < 1000 then .ok σ (S2.set n (.dct (putD kvs k v))) else .bad
        | none => .bad)
      | _ => .bad)
    | _ => .bad
  | .fld o f, v, σ, S => (evE o σ S).bind fun x S1 => match x with
    | .loc n => (match S1[n]? with
      | some (.ins c fs) => if fs.length < 100 ∧ M.attr c f = true then .ok σ (S1.set n (.ins c (putFD f v fs))) else .bad
      | _ => .bad)
    | _ => .bad
def asTs : Ts → List D → En → Sto → Res En
  | .nil, vs, σ, S => (match vs with | [] => .ok σ S | _ => .bad)
  | .cons t ts, vs, σ, S => (match vs with
    | v :: r => (asT t v σ S).bind fun σ1 S1 => asTs ts r σ1 S1
    | [] => .bad)
end
mutual
def exC (W : Nat) : C → En → Sto → Res Fl
  | .pass, σ, S => .ok (.nx σ) S
  | .expr e, σ, S => (evE M e σ S).bind fun _ S1 => .ok (.nx σ) S1
  | .asg t e, σ, S => (evE M e σ S).bind fun v S1 => (asT M t v σ S1).bind fun σ1 S2 => .ok (.nx σ1) S2
  | .aug i op e, σ, S => (match σ[i]? with
    | some (some v) => (evE M e σ S).bind fun x S1 => match op, v, x with
      | .Add, .int a, .int b => .ok (.nx (σ.set i (some (.int (a + b))))) S1
      | .Sub, .int a, .int b => .ok (.nx (σ.set i (some (.int (a - b))))) S1
      | _, _, _ => .bad
    | _ => .bad)
  | .ret .none, _, S => .ok (.ret .non) S
  | .ret (.some e), σ, S => (evE M e σ S).bind fun v S1 => .ok (.ret v) S1
  | .iff c a b, σ, S => (evE M c σ S).bind fun x S1 => match x with | .bl true => exCs W a σ S1 | .bl false => exCs W b σ S1 | _ => .bad
  | .for t it b, σ, S => (evI M it σ S).bind fun (xs, g) S1 => forGo (fun x σ S => (asT M t x σ S).bind fun σ1 S1 => exCs W b σ1 S1) g xs σ S1
  | .while c b, σ, S => whileGo (fun σ S => evE M c σ S) (fun σ S => exCs W b σ S) W σ S
  | .brk, σ, S => .ok (.bk σ) S
  | .cont, σ, S => .ok (.ct σ) S
  | .never, _, _ => .bad
def exCs (W : Nat) : Cs → En → Sto → Res Fl
  | .nil, σ, S => .ok (.nx σ) S
  | .cons c cs, σ, S => (exC W c σ S).bind fun fl S1 => match fl with
    | .nx σ1 => exCs W cs σ1 S1
    | f => .ok f S1
end
end
end PV

/-! PV2: how data stand in the heap; what an evaluation leaves. -/
namespace PV
open PySem L2

/-- the tables of code objects of the functions that hold lambdas -/
def tabs (L : Lx) (K : PySem.W.Frag) (mg : Str → Option Value) : List (Addr × Str) := L.tab.filterMap fun f => match mg f with
  | some (.ref fa) => (match K.lookup fa with
    | some ⟨_, _, .func fd, _⟩ => (match fd.code with
      | .ref c => (match K.lookup c with
        | some ⟨_, _, .fields us, _⟩ => (match us[(11 : Nat)]? with
          | some (Value.ref P) => some (P, f ++ ".<locals>." ++ "<lambda>")
          | _ => none)
        | _ => none)
      | _ => none)
    | _ => none)
  | _ => none
/-- a lambda's function object -/
def LamO (a : Addr) (q : Str) (p : Arguments) (b : Expr) (sc : Scope) (pm : Value) (c' : Addr) (ctv : Value) : HO := .ext fun h => h.get? a = some (PySem.W.kla_obj "<lambda>" q p b sc [] pm c' ctv)
section
variable (L : Lx) (K : PySem.W.Frag) (mg : Str → Option Value) (π : List Addr) (H : Hp)
mutual
def Rep : D → V → Prop
  | .non, v => v = .non
  | .bl b, v => v = .bl b
  | .int i, v => v = .int i
  | .str x, v => v = .str x
  | .tup ds, v => ∃ a vs, v = .ref a ∧ SqT K H a vs ∧ Reps ds vs
  | .loc n, v => ∃ a, v = .ref a ∧ π[n]? = some a
  | .glb x, v => ∃ a, v = .ref a ∧ mg x = some (.ref a)
  | .ty n, v => v = .ty n
  | .lam i, v => ∃ a q p b sc pm c' ctv, v = .ref a ∧ L.src[i]? = some (q, p, b, sc) ∧ H a = some (LamO a q p b sc pm c' ctv) ∧ H c' = some (LamX.CodeO c' q)
def Reps : List D → List V → Prop
  | [], vs => vs = []
  | d :: ds, vs => ∃ v r, vs = v :: r ∧ Rep d v ∧ Reps ds r
end
/-- an object of the store at its address -/
def ORel : O → Addr → Prop
  | .lst ds, a => ∃ vs, H a = some (.lst vs) ∧ Reps L K mg π H ds vs
  | .frz ds, a => ∃ ob vs, H a = some (.frz ob (.lst vs)) ∧ Reps L K mg π H ds vs
  | .dct kvs, a => ∃ ws : List (Key × V), H a = some (.dK ws) ∧ ws.map (·.1) = kvs.map (·.1) ∧ Reps L K mg π H (kvs.map (·.2)) (ws.map (·.2))
  | .ins c fs, a => ∃ (CA dx : Addr) (ws : List (Str × V)), mg c = some (.ref CA) ∧ H a = some (.ins CA dx ws) ∧ ws.map (·.1) = fs.map (·.1) ∧ Reps L K mg π H (fs.map (·.2)) (ws.map (·.2))
structure SRel (S : Sto) : Prop where
  len : π.length = S.length
  nd : π.Nodup
  at_ : ∀ (n : Nat) (o : O) (a : Addr), S[n]? = some o → π[n]? = some a → ORel L K mg π H o a
  tb : LamX.Tabs (tabs L K mg) H
structure ERel (σD : En) (σ : L2.St) : Prop where
  len : σD.length = σ.length
  at_ : ∀ (i : Nat) (d : D), σD[i]? = some (some d) → ∃ v, σ[i]? = some (some v) ∧ Rep L K mg π H d v
end
/-- the heap grows; what is not of the store stays -/
structure Le (π : List Addr) (H : Hp) (π' : List Addr) (H' : Hp) : Prop where
  pre : ∃ τ, π' = π ++ τ ∧ ∀ a ∈ τ, H a = none
  keep : ∀ a o, a ∉ π → H a = some o → (∀ ps, o ≠ .tbl ps) → H' a = some o
  live : ∀ a, H a ≠ none → H' a ≠ none

theorem Le.refl (π : List Addr) (H : Hp) : Le π H π H := ⟨⟨[], by simp, by simp⟩, fun _ _ _ h _ => h, fun _ h => h⟩
theorem Le.trans {π π1 π2 : List Addr} {H H1 H2 : Hp} (a : Le π H π1 H1) (b : Le π1 H1 π2 H2) : Le π H π2 H2 := by
  obtain ⟨τ, e, f⟩ := a.pre
  obtain ⟨υ, e', f'⟩ := b.pre
  refine ⟨⟨τ ++ υ, by rw [e', e, List.append_assoc], fun x hx => ?_⟩, fun x o hx h nt => ?_, fun x h => b.live x (a.live x h)⟩
  · rcases List.mem_append.mp hx with h | h
    · exact f x h
    · refine Classical.byContradiction fun q => a.live x q (f' x h)
  · refine b.keep x o ?_ (a.keep x o hx h nt) nt
    rw [e]
    intro hm
    rcases List.mem_append.mp hm with hm | hm
    · exact hx hm
    · rw [f x hm] at h; cases h
/-- back to the store as it was: its addresses alone -/
theorem Le.back {π π1 : List Addr} {H H1 : Hp} (a : Le π H π1 H1) : Le π H π H1 := ⟨⟨[], by simp, by simp⟩, a.keep, a.live⟩

section
variable {L : Lx} {K : PySem.W.Frag} {mg : Str → Option Value} {π π' : List Addr} {H H' : Hp} {S S' : Sto}
/-- what stands at an address of the store is no tuple -/
theorem SRel.notup (r : SRel L K mg π H S) {a : Addr} (h : a ∈ π) {xs : List V} : ¬ Rd H a (.tup xs) := by
  obtain ⟨n, hn⟩ := List.mem_iff_getElem?.mp h
  have hl : n < S.length := by rw [← r.len]; exact (List.getElem?_eq_some_iff.mp hn).1
  have q := r.at_ n S[n] a (List.getElem?_eq_getElem hl) hn
  intro z
  cases e : S[n] with
  | lst ds => rw [e] at q; obtain ⟨vs, h1, _⟩ := q; rcases z with z | ⟨o, z⟩ <;> rw [h1] at z <;> cases z
  | frz ds => rw [e] at q; obtain ⟨ob, vs, h1, _⟩ := q; rcases z with z | ⟨o, z⟩ <;> rw [h1] at z <;> cases z
  | dct ds => rw [e] at q; obtain ⟨ws, h1, _⟩ := q; rcases z with z | ⟨o, z⟩ <;> rw [h1] at z <;> cases z
  | ins c fs => rw [e] at q; obtain ⟨CA, dx, ws, _, h1, _⟩ := q; rcases z with z | ⟨o, z⟩ <;> rw [h1] at z <;> cases z
theorem SRel.noext (r : SRel L K mg π H S) {a : Addr} (h : a ∈ π) {φ : Heap → Prop} : H a ≠ some (.ext φ) := by
  obtain ⟨n, hn⟩ := List.mem_iff_getElem?.mp h
  have hl : n < S.length := by rw [← r.len]; exact (List.getElem?_eq_some_iff.mp hn).1
  have q := r.at_ n S[n] a (List.getElem?_eq_getElem hl) hn
  intro z
  cases e : S[n] with
  | lst ds => rw [e] at q; obtain ⟨vs, h1, _⟩ := q; rw [h1] at z; cases z
  | frz ds => rw [e] at q; obtain ⟨ob, vs, h1, _⟩ := q; rw [h1] at z; cases z
  | dct ds => rw [e] at q; obtain ⟨ws, h1, _⟩ := q; rw [h1] at z; cases z
  | ins c fs => rw [e] at q; obtain ⟨CA, dx, ws, _, h1, _⟩ := q; rw [h1] at z; cases z
theorem SRel.notbl (r : SRel L K mg π H S) {a : Addr} (h : a ∈ π) {φ : Array Value} : H a ≠ some (.tbl φ) := by
  obtain ⟨n, hn⟩ := List.mem_iff_getElem?.mp h
  have hl : n < S.length := by rw [← r.len]; exact (List.getElem?_eq_some_iff.mp hn).1
  have q := r.at_ n S[n] a (List.getElem?_eq_getElem hl) hn
  intro z
  cases e : S[n] with
  | lst ds => rw [e] at q; obtain ⟨vs, h1, _⟩ := q; rw [h1] at z; cases z
  | frz ds => rw [e] at q; obtain ⟨ob, vs, h1, _⟩ := q; rw [h1] at z; cases z
  | dct ds => rw [e] at q; obtain ⟨ws, h1, _⟩ := q; rw [h1] at z; cases z
  | ins c fs => rw [e] at q; obtain ⟨CA, dx, ws, _, h1, _⟩ := q; rw [h1] at z; cases z
/-- tables stay where only lists, tuples and the like are written -/
theorem tabs_upd {T : List (Addr × Str)} {H : Hp} {a : Addr} {u : HO} (t : LamX.Tabs T H) (n1 : ∀ ps, H a ≠ some (.tbl ps)) (n2 : ∀ φ, H a ≠ some (.ext φ)) : LamX.Tabs T (upd H a u) := fun p hp => by
  obtain ⟨ps, h1, h2, h3⟩ := t p hp
  refine ⟨ps, by rw [upd_ne (fun (z : p.1 = a) => n1 ps (z ▸ h1))]; exact h1, h2, fun pos cv hc => ?_⟩
  obtain ⟨c, e1, e2⟩ := h3 pos cv hc
  exact ⟨c, e1, by rw [upd_ne (fun (z : c = a) => n2 _ (z ▸ e2))]; exact e2⟩
theorem tabs_new {T : List (Addr × Str)} {H : Hp} {a : Addr} {u : HO} (t : LamX.Tabs T H) (n : H a = none) : LamX.Tabs T (upd H a u) := tabs_upd t (fun ps z => by rw [n] at z; cases z) fun ps z => by rw [n] at z; cases z
theorem SqT.le (r : SRel L K mg π H S) (l : Le π H π' H') {a : Addr} {xs : List V} (h : SqT K H a xs) : SqT K H' a xs := by
  rcases h with h | h
  · have hn : a ∉ π := fun z => r.notup z h
    rcases h with h | ⟨o, h⟩
    · exact .inl (.inl (l.keep _ _ hn h fun _ z => nomatch z))
    · exact .inl (.inr ⟨o, l.keep _ _ hn h fun _ z => nomatch z⟩)
  · exact .inr h
theorem Le.get (l : Le π H π' H') {n : Nat} {a : Addr} (h : π[n]? = some a) : π'[n]? = some a := by
  obtain ⟨τ, e, _⟩ := l.pre
  rw [e, List.getElem?_append_left (List.getElem?_eq_some_iff.mp h).1]
  exact h
mutual
theorem Rep.le (r : SRel L K mg π H S) (l : Le π H π' H') : ∀ (d : D) (v : V), Rep L K mg π H d v → Rep L K mg π' H' d v
  | .non, _, h => h
  | .bl _, _, h => h
  | .int _, _, h => h
  | .str _, _, h => h
  | .tup ds, v, h => by
    obtain ⟨a, vs, e, q, hs⟩ := h
    exact ⟨a, vs, e, SqT.le r l q, Reps.le r l ds vs hs⟩
  | .loc n, v, h => by
    obtain ⟨a, e, q⟩ := h
    exact ⟨a, e, l.get q⟩
  | .glb _, _, h => h
  | .ty _, _, h => h
  | .lam i, v, h => by
    obtain ⟨a, q, p, b, sc, pm, c', ctv, e, e1, e2, e3⟩ := h
    exact ⟨a, q, p, b, sc, pm, c', ctv, e, e1, l.keep _ _ (fun z => r.noext z e2) e2 (fun _ z => nomatch z), l.keep _ _ (fun z => r.noext z e3) e3 (LamX.codeO_ne ·)⟩
theorem Reps.le (r : SRel L K mg π H S) (l : Le π H π' H') : ∀ (ds : List D) (vs : List V), Reps L K mg π H ds vs → Reps L K mg π' H' ds vs
  | [], _, h => h
  | d :: ds, vs, h => by
    obtain ⟨v, t, e, h1, h2⟩ := h
    exact ⟨v, t, e, Rep.le r l d v h1, Reps.le r l ds t h2⟩
end
theorem ERel.le (r : SRel L K mg π H S) (l : Le π H π' H') {σD : En} {σ : L2.St} (h : ERel L K mg π H σD σ) : ERel L K mg π' H' σD σ :=
  ⟨h.len, fun i d e => let ⟨v, e', q⟩ := h.at_ i d e; ⟨v, e', Rep.le r l d v q⟩⟩
theorem Reps.length : ∀ {ds : List D} {vs : List V}, Reps L K mg π H ds vs → ds.length = vs.length
  | [], _, h => by
    have e : _ = [] := h
    rw [e]; rfl
  | d :: ds, vs, h => by
    obtain ⟨v, t, e, h1, h2⟩ := h
    rw [e, List.length_cons, List.length_cons, Reps.length h2]
theorem Reps.get : ∀ {ds : List D} {vs : List V} {i : Nat} {d : D}, Reps L K mg π H ds vs → ds[i]? = some d → ∃ v, vs[i]? = some v ∧ Rep L K mg π H d v
  | [], _, _, _, _, e => by simp at e
  | d :: ds, vs, 0, d', h, e => by
    obtain ⟨v, t, e1, h1, h2⟩ := h
    simp at e; subst e
    exact ⟨v, by rw [e1]; rfl, h1⟩
  | d :: ds, vs, i + 1, d', h, e => by
    obtain ⟨v, t, e1, h1, h2⟩ := h
    obtain ⟨w, hw, r⟩ := Reps.get (i := i) h2 (by simpa using e)
    exact ⟨w, by rw [e1]; simpa using hw, r⟩
theorem Reps.append : ∀ {ds es : List D} {vs us : List V}, Reps L K mg π H ds vs → Reps L K mg π H es us → Reps L K mg π H (ds ++ es) (vs ++ us)
  | [], _, vs, _, h, h' => by
    have e : vs = [] := h
    rw [e]; exact h'
  | d :: ds, es, vs, us, h, h' => by
    obtain ⟨v, t, e, h1, h2⟩ := h
    exact ⟨v, t ++ us, by rw [e]; rfl, h1, Reps.append h2 h'⟩
theorem Reps.one {d : D} {v : V} (h : Rep L K mg π H d v) : Reps L K mg π H [d] [v] := ⟨v, [], rfl, h, rfl⟩
theorem Reps.take : ∀ {ds : List D} {vs : List V} (n : Nat), Reps L K mg π H ds vs → Reps L K mg π H (ds.take n) (vs.take n)
  | _, _, 0, _ => by rw [List.take_zero, List.take_zero]; rfl
  | [], vs, n + 1, h => by
    have e : vs = [] := h
    rw [e]; exact rfl
  | d :: ds, vs, n + 1, h => by
    obtain ⟨v, t, e, h1, h2⟩ := h
    rw [e]
    exact ⟨v, _, rfl, h1, Reps.take n h2⟩
theorem Reps.drop : ∀ {ds : List D} {vs : List V} (n : Nat), Reps L K mg π H ds vs → Reps L K mg π H (ds.drop n) (vs.drop n)
  | _, _, 0, h => h
  | [], vs, n + 1, h => by
    have e : vs = [] := h
    rw [e]; exact rfl
  | d :: ds, vs, n + 1, h => by
    obtain ⟨v, t, e, h1, h2⟩ := h
    rw [e]
    exact Reps.drop n h2
theorem Reps.reverse : ∀ {ds : List D} {vs : List V}, Reps L K mg π H ds vs → Reps L K mg π H ds.reverse vs.reverse
  | [], vs, h => by
    have e : vs = [] := h
    rw [e]; exact rfl
  | d :: ds, vs, h => by
    obtain ⟨v, t, e, h1, h2⟩ := h
    rw [e, List.reverse_cons, List.reverse_cons]
    exact Reps.append (Reps.reverse h2) (Reps.one h1)
theorem Reps.set : ∀ {ds : List D} {vs : List V} (i : Nat) {d : D} {v : V}, Reps L K mg π H ds vs → Rep L K mg π H d v → Reps L K mg π H (ds.set i d) (vs.set i v)
  | [], vs, i, _, _, h, _ => by
    have e : vs = [] := h
    rw [e]; exact rfl
  | d :: ds, vs, 0, _, _, h, r => by
    obtain ⟨v, t, e, h1, h2⟩ := h
    rw [e]
    exact ⟨_, _, rfl, r, h2⟩
  | d :: ds, vs, i + 1, _, _, h, r => by
    obtain ⟨v, t, e, h1, h2⟩ := h
    rw [e]
    exact ⟨_, _, rfl, h1, Reps.set i h2 r⟩
theorem Reps.eraseIdx : ∀ {ds : List D} {vs : List V} (i : Nat), Reps L K mg π H ds vs → Reps L K mg π H (ds.eraseIdx i) (vs.eraseIdx i)
  | [], vs, i, h => by
    have e : vs = [] := h
    rw [e]; exact rfl
  | d :: ds, vs, 0, h => by
    obtain ⟨v, t, e, h1, h2⟩ := h
    rw [e]
    exact h2
  | d :: ds, vs, i + 1, h => by
    obtain ⟨v, t, e, h1, h2⟩ := h
    rw [e]
    exact ⟨_, _, rfl, h1, Reps.eraseIdx i h2⟩
theorem Reps.flatten : ∀ (n : Nat) {ds : List D} {vs : List V}, Reps L K mg π H ds vs → Reps L K mg π H (List.replicate n ds).flatten (List.replicate n vs).flatten
  | 0, _, _, _ => rfl
  | n + 1, _, _, h => by
    rw [List.replicate_succ, List.replicate_succ, List.flatten_cons, List.flatten_cons]
    exact Reps.append h (Reps.flatten n h)
/-- an object that stays, in the grown heap -/
theorem ORel.le (r : SRel L K mg π H S) (l : Le π H π' H') {o : O} {a : Addr} (h : ORel L K mg π H o a) (e : H' a = H a) : ORel L K mg π' H' o a := by
  cases o with
  | lst ds => obtain ⟨vs, h1, h2⟩ := h; exact ⟨vs, e.trans h1, Reps.le r l _ _ h2⟩
  | frz ds => obtain ⟨ob, vs, h1, h2⟩ := h; exact ⟨ob, vs, e.trans h1, Reps.le r l _ _ h2⟩
  | dct ds => obtain ⟨ws, h1, h2, h3⟩ := h; exact ⟨ws, e.trans h1, h2, Reps.le r l _ _ h3⟩
  | ins c fs => obtain ⟨CA, dx, ws, h0, h1, h2, h3⟩ := h; exact ⟨CA, dx, ws, h0, e.trans h1, h2, Reps.le r l _ _ h3⟩
theorem SRel.live (r : SRel L K mg π H S) {n : Nat} {a : Addr} (h : π[n]? = some a) : ∃ o, S[n]? = some o ∧ ORel L K mg π H o a := by
  have hl : n < S.length := by rw [← r.len]; exact (List.getElem?_eq_some_iff.mp h).1
  exact ⟨S[n], List.getElem?_eq_getElem hl, r.at_ n _ a (List.getElem?_eq_getElem hl) h⟩
theorem ORel.some {o : O} {a : Addr} (h : ORel L K mg π H o a) : H a ≠ none := by
  cases o with
  | lst ds => obtain ⟨vs, h1, h2⟩ := h; rw [h1]; exact fun z => nomatch z
  | frz ds => obtain ⟨ob, vs, h1, h2⟩ := h; rw [h1]; exact fun z => nomatch z
  | dct ds => obtain ⟨ws, h1, h2, h3⟩ := h; rw [h1]; exact fun z => nomatch z
  | ins c fs => obtain ⟨CA, dx, ws, h0, h1, h2, h3⟩ := h; rw [h1]; exact fun z => nomatch z
theorem SRel.mem (r : SRel L K mg π H S) {a : Addr} (h : a ∈ π) : H a ≠ none := by
  obtain ⟨n, hn⟩ := List.mem_iff_getElem?.mp h
  obtain ⟨o, _, q⟩ := r.live hn
  exact q.some
theorem SRel.fresh (r : SRel L K mg π H S) {p : Addr} (h : H p = none) : p ∉ π := fun z => r.mem z h
/-- the addresses at a number of the store -/
theorem SRel.addr (r : SRel L K mg π H S) {n : Nat} {o : O} (h : S[n]? = some o) : ∃ a, π[n]? = some a ∧ ORel L K mg π H o a := by
  have hl : n < π.length := by rw [r.len]; exact (List.getElem?_eq_some_iff.mp h).1
  exact ⟨π[n], List.getElem?_eq_getElem hl, r.at_ n o _ h (List.getElem?_eq_getElem hl)⟩
/-- untracked additions: a new tuple -/
theorem Le.tup {p : Addr} {xs : List V} (h : H p = none) : Le π H π (upd H p (.tup xs)) :=
  ⟨⟨[], by simp, by simp⟩, fun a o _ e _ => by rw [upd_ne (ne_of_none e h)]; exact e, fun a q => by
    by_cases e : a = p
    · rw [e]; rw [upd_same]; exact fun z => nomatch z
    · rw [upd_ne e]; exact q⟩
theorem Le.new {p : Addr} {u : HO} (h : H p = none) : Le π H (π ++ [p]) (upd H p u) :=
  ⟨⟨[p], rfl, fun a ha => by
    have e : a = p := by simpa using ha
    rw [e]; exact h⟩, fun a o _ e _ => by rw [upd_ne (ne_of_none e h)]; exact e, fun a q => by
    by_cases e : a = p
    · rw [e]; rw [upd_same]; exact fun z => nomatch z
    · rw [upd_ne e]; exact q⟩
/-- the store relation in a heap that has grown, no object of the store changed -/
theorem SRel.le (r : SRel L K mg π H S) (l : Le π H π H') (e : ∀ a ∈ π, H' a = H a) (t : LamX.Tabs (tabs L K mg) H') : SRel L K mg π H' S :=
  ⟨r.len, r.nd, fun n o a h1 h2 => ORel.le r l (r.at_ n o a h1 h2) (e a (List.mem_of_getElem? h2)), t⟩
theorem SRel.tup (r : SRel L K mg π H S) {p : Addr} {xs : List V} (h : H p = none) : SRel L K mg π (upd H p (.tup xs)) S :=
  r.le (Le.tup h) (fun a ha => upd_ne fun e => r.mem ha (e ▸ h)) (tabs_new r.tb h)
/-- a new object of the store -/
theorem SRel.new (r : SRel L K mg π H S) {p : Addr} {u : HO} {o : O} (h : H p = none) (q : ORel L K mg (π ++ [p]) (upd H p u) o p) : SRel L K mg (π ++ [p]) (upd H p u) (S ++ [o]) := by
  have l := Le.new (π := π) (u := u) h
  refine ⟨by simp [r.len], List.nodup_append.mpr ⟨r.nd, by simp, fun a ha b hb => ?_⟩, fun n o' a h1 h2 => ?_, tabs_new r.tb h⟩
  · have e : b = p := by simpa using hb
    rw [e]; exact fun z => r.fresh h (z ▸ ha)
  · by_cases hn : n < π.length
    · rw [List.getElem?_append_left hn] at h2
      rw [List.getElem?_append_left (by rw [← r.len]; exact hn)] at h1
      exact ORel.le r l (r.at_ n o' a h1 h2) (upd_ne fun e => r.fresh h (e ▸ List.mem_of_getElem? h2))
    · have hn' : n = π.length := by
        have := (List.getElem?_eq_some_iff.mp h2).1
        simp at this; omega
      subst hn'
      rw [List.getElem?_append_right (Nat.le_refl _)] at h2
      rw [r.len, List.getElem?_append_right (Nat.le_refl _)] at h1
      simp at h1 h2
      rw [← h1, ← h2]; exact q
/-- an object of the store changed -/
theorem Le.set (r : SRel L K mg π H S) {n : Nat} {a : Addr} {u : HO} (h : π[n]? = some a) : Le π H π (upd H a u) :=
  ⟨⟨[], by simp, by simp⟩, fun b o hb e _ => by rw [upd_ne (fun z => hb (by rw [z]; exact List.mem_of_getElem? h))]; exact e, fun b q => by
    by_cases e : b = a
    · rw [e, upd_same]; exact fun z => nomatch z
    · rw [upd_ne e]; exact q⟩
theorem SRel.set (r : SRel L K mg π H S) {n : Nat} {a : Addr} {u : HO} {o : O} (h : π[n]? = some a) (q : ORel L K mg π (upd H a u) o a) : SRel L K mg π (upd H a u) (S.set n o) := by
  have l := Le.set r (u := u) h
  refine ⟨by simp [r.len], r.nd, fun m o' b h1 h2 => ?_, tabs_upd r.tb (fun _ => r.notbl (List.mem_of_getElem? h)) fun _ => r.noext (List.mem_of_getElem? h)⟩
  by_cases hm : m = n
  · subst hm
    rw [h] at h2; cases h2
    have hl : m < S.length := by rw [← r.len]; exact (List.getElem?_eq_some_iff.mp h).1
    rw [List.getElem?_set_self hl] at h1
    cases h1; exact q
  · rw [List.getElem?_set_ne (Ne.symm hm)] at h1
    refine ORel.le r l (r.at_ m o' b h1 h2) (upd_ne fun e => hm ?_)
    subst e
    obtain ⟨h3, e3⟩ := List.getElem?_eq_some_iff.mp h2
    obtain ⟨h4, e4⟩ := List.getElem?_eq_some_iff.mp h
    exact (List.getElem_inj r.nd).mp (e3.trans e4.symm)
end
end PV

/-! PV3: expressions. -/
namespace PV
open PySem PySem.Spec PyProof.Rows L2

theorem _root_.L2.PE.imp {X : Cx} {e : Expr} {t t' : TE} (h : PE X e t) (i : ∀ σ H Q, t' σ H Q → t σ H Q) : PE X e t' := ⟨fun pins s σ H Q I q => h.run pins s σ H Q I (i σ H Q q)⟩
theorem _root_.L2.PT.imp {X : Cx} {e : Expr} {t t' : TT} (h : PT X e t) (i : ∀ σ H Q, t' σ H Q → t σ H Q) : PT X e t' := ⟨fun pins s σ H Q I q => h.run pins s σ H Q I (i σ H Q q)⟩
theorem _root_.L2.PA.imp {X : Cx} {e : List Expr} {t t' : TA} (h : PA X e t) (i : ∀ σ H Q, t' σ H Q → t σ H Q) : PA X e t' := ⟨fun pos pins s σ H Q I q => h.run pos pins s σ H Q I (i σ H Q q)⟩

/-- what a function promises: c gives its answer -/
def spF (L : Lx) (c : List D → Sto → Res D) (K : PySem.W.Frag) (mg : Str → Option Value) : Sp := fun vs H Q _ => ∃ π S ds d S', SRel L K mg π H S ∧ Reps L K mg π H ds vs ∧ c ds S = .ok d S' ∧
  ∀ v π' H', Le π H π' H' → SRel L K mg π' H' S' → Rep L K mg π' H' d v → Q v H'
/-- what a class's __init__ promises: self is a new instance -/
def spM (L : Lx) (c : List D → Sto → Res D) (K : PySem.W.Frag) (mg : Str → Option Value) (CA : Addr) : Sp := fun vs H Q _ => ∃ (x dx : Addr) (us : List V) (π : List Addr) (H0 : Hp) (S : Sto) (ds : List D) (d : D) (S' : Sto), vs = .ref x :: us ∧ H = upd (upd H0 dx (.own x)) x (.ins CA dx []) ∧ H0 x = none ∧ H0 dx = none ∧ dx ≠ x ∧
  SRel L K mg π H0 S ∧ Reps L K mg π H0 ds us ∧ c ds S = .ok d S' ∧
  ∀ π' H', Le π H0 π' H' → SRel L K mg π' H' S' → Rep L K mg π' H' d (.ref x) → Q .non H'
structure ClsF (K : PySem.W.Frag) (C : Addr) : Prop where
  cl : Cls K C
  ha : PySem.W.findIn K (.ref C) "__class__" = some (some (.builtin "object.__class__"))
  hn : PySem.W.specialIn K (.builtin "object.__class__") "__get__" = some (some (.builtin "getset_descriptor.__get__"))
  htk : PySem.W.takesIn K (.builtin "object.__class__") = some true
  hm : PySem.W.mroIn K C (.type "object") = some true
/-- built-in names that the program leaves alone -/
def blts : List Str := ["len", "tuple", "list", "abs", "max", "int", "isinstance", "repr", "all", "any", "str", "bool", "range", "zip", "enumerate", "reversed", "dict", "sum", "min", "sorted"]
/-- a class is made by its arguments: c's answer; defaults are added -/
structure MkF (L : Lx) (c : List D → Sto → Res D) (k : Nat) (P : Program) (w : World) (K : PySem.W.Frag) (mg : Str → Option Value) (base : Heap) (CA : Addr) : Prop where
  run : ∀ {X : Cx} {pins : List (Addr × Obj)} {σ : L2.St} {H : Hp} {s : Shared} {Q : VK} {us : List Value} {vs : List V} {π : List Addr} {S : Sto} {ds : List D} {d : D} {S' : Sto},
    X.prog = P → X.w = w → X.K = K → X.mg = mg → X.base = base → Room k X.A → Inv X pins σ H s → Vals vs us → SRel L K mg π H S → Reps L K mg π H ds vs → c ds S = .ok d S' →
    (∀ v π' H', Le π H π' H' → SRel L K mg π' H' S' → Rep L K mg π' H' d v → Q v H') → wpAny (model X.prog X.w) X.A (call (.ref CA) us) (EP X pins σ Q) X.xe s
/-- .. by keywords: perm puts the values (the keywords' in their order) in their places -/
structure MkK (L : Lx) (c : List D → Sto → Res D) (k : Nat) (P : Program) (w : World) (K : PySem.W.Frag) (mg : Str → Option Value) (base : Heap) (CA : Addr) (ks : List Str) (perm : List Nat) : Prop where
  run : ∀ {X : Cx} {pins : List (Addr × Obj)} {σ : L2.St} {H : Hp} {s : Shared} {Q : VK} {us : List Value} {vs : List V} {π : List Addr} {S : Sto} {ds : List D} {d : D} {S' : Sto},
    X.prog = P → X.w = w → X.K = K → X.mg = mg → X.base = base → Room k X.A → Inv X pins σ H s → Vals vs us → SRel L K mg π H S → Reps L K mg π H ds vs → ds.length = ks.length → c (perm.filterMap fun i => ds[i]?) S = .ok d S' →
    (∀ v π' H', Le π H π' H' → SRel L K mg π' H' S' → Rep L K mg π' H' d v → Q v H') → wpAny (model X.prog X.w) X.A (call (.ref CA) [] (ks.zip us)) (EP X pins σ Q) X.xe s
/-- a lambda's call -/
structure LmF (L : Lx) (c : List D → Sto → Res D) (k : Nat) (P : Program) (w : World) (K : PySem.W.Frag) (mg : Str → Option Value) (base : Heap) (i : Nat) : Prop where
  run : ∀ {X : Cx} {pins : List (Addr × Obj)} {σ : L2.St} {H : Hp} {s : Shared} {Q : VK} {us : List Value} {vs : List V} {π : List Addr} {S : Sto} {ds : List D} {d : D} {S' : Sto} {a : Addr},
    X.prog = P → X.w = w → X.K = K → X.mg = mg → X.base = base → Room k X.A → Inv X pins σ H s → Rep L K mg π H (.lam i) (.ref a) → Vals vs us → SRel L K mg π H S → Reps L K mg π H ds vs → c ds S = .ok d S' →
    (∀ v π' H', Le π H π' H' → SRel L K mg π' H' S' → Rep L K mg π' H' d v → Q v H') → wpAny (model X.prog X.w) X.A (call (.ref a) us) (EP X pins σ Q) X.xe s
/-- what stands of the program -/
structure Fct (M : Sem) (k : Nat) (P : Program) (w : World) (K : PySem.W.Frag) (mg : Str → Option Value) (base : Heap) : Prop where
  fn : ∀ f ds S d S', M.call f ds S = .ok d S' → ∃ fa fd ps, mg f = some (.ref fa) ∧ PySem.W.keepIn K (.ref fa) = true ∧ Binds K fd ps [] ∧ FnOk P w K mg base CX0 k fa fd ps (spF M.L (M.call f) K mg)
  new : ∀ c ds S d S', M.make c ds S = .ok d S' → ∃ CA, mg c = some (.ref CA) ∧ PySem.W.keepIn K (.ref CA) = true ∧ MkF M.L (M.make c) k P w K mg base CA
  newK : ∀ (c : Str) (ks : List Str) (perm : List Nat) (ds : List D) (S : Sto) (d : D) (S' : Sto), M.perm c ks = some perm → M.make c (perm.filterMap fun i => ds[i]?) S = .ok d S' → ∃ CA, mg c = some (.ref CA) ∧ PySem.W.keepIn K (.ref CA) = true ∧ MkK M.L (M.make c) k P w K mg base CA ks perm
  mth : ∀ c m ds S d S', (m = ("__eq__" : Str) ∨ m = ("__ne__" : Str)) → M.mcall c m ds S = .ok d S' → ∀ CA, mg c = some (.ref CA) → ∃ fa fd ps, PySem.W.findIn K (.ref CA) m = some (some (.ref fa)) ∧ PySem.W.isFn K (.ref fa) = true ∧ Binds K fd ps [] ∧
    FnOk P w K mg base CX0 k fa fd ps (spF M.L (M.mcall c m) K mg)
  lam : ∀ i ds S d S', M.lam i ds S = .ok d S' → LmF M.L (M.lam i) k P w K mg base i
  nb : ∀ x, blts.contains x = true → mg x = none
  gcd : M.gc = true → mg "gcd" = some (.builtin "math.gcd")
  gl : ∀ x d, M.glob x = some d → ∃ u v, mg x = some u ∧ RelV v u ∧ ∀ π H, Rep M.L K mg π H d v
  at_ : ∀ c f, M.attr c f = true → ∀ CA, mg c = some (.ref CA) → Cls K CA ∧ NoAttr K CA f
  cls : ∀ c, M.cls c = true → ∀ CA, mg c = some (.ref CA) → ClsF K CA ∧ (∀ n ∈ tyNames, PySem.W.kitOne K (.ref CA) (.type n) = some false ∧ PySem.W.kitOne K (.type n) (.ref CA) = some false ∧ PySem.W.notFirst K CA (.type n) = true) ∧
    ∀ c' CB, M.cls c' = true → mg c' = some (.ref CB) → PySem.W.kitOne K (.ref CA) (.ref CB) = some (decide (c = c')) ∧ PySem.W.notFirst K CA (.ref CB) = true
/-- a scope; top: it is a def's own -/
structure SC extends Scope where
  top : Bool
structure CxOk (M : Sem) (k : Nat) (N : List Str) (ℓ : SC) (X : Cx) : Prop where
  n : X.N = N
  nd : N.Nodup
  sc : X.env.scope = ℓ.toScope
  calm : X.calm = true
  xe : X.xe = fun _ _ => False
  room : Room k X.A
  fn : ℓ.top = true → ∀ x, X.fn x = true
  gd : M.rp = true → X.A.guards = some []
  lm : ∀ f, M.here = some f → ℓ.top = true → ∃ c P, X.env.code = .ref c ∧ X.env.qual = f ++ ".<locals>." ∧ LamX.TabB X.base X.mg c P ∧ tabs M.L X.K X.mg = [(P, f ++ ".<locals>." ++ "<lambda>")]
  fct : Fct M k X.prog X.w X.K X.mg X.base

section
variable (X : Cx) (M : Sem)
/-- an evaluation that comes through, and what it leaves -/
def Run {α β : Type} (rep : List Addr → Hp → α → β → Prop) (f : En → Sto → Res α) (σ : L2.St) (H : Hp) (Q : β → Hp → Prop) : Prop :=
  ∃ π σD S d S', ERel M.L X.K X.mg π H σD σ ∧ SRel M.L X.K X.mg π H S ∧ f σD S = .ok d S' ∧ ∀ v π' H', Le π H π' H' → SRel M.L X.K X.mg π' H' S' → rep π' H' d v → Q v H'
def tS (e : E) : TE := Run X M (Rep M.L X.K X.mg) (evE M e)
def tSs (es : Es) : TA := Run X M (Reps M.L X.K X.mg) (evEs M es)
def tT (e : E) : TT := fun σ H Q => ∃ π σD S b S', ERel M.L X.K X.mg π H σD σ ∧ SRel M.L X.K X.mg π H S ∧ evE M e σD S = .ok (.bl b) S' ∧ ∀ π' H', Le π H π' H' → SRel M.L X.K X.mg π' H' S' → Q b H'
end

/-- the test form is the plain one -/
def PlainT (e : Expr) : Prop := ∀ (env : Env) whole, isTrue e env whole = (do let v ← whole; standAt e.pos; holding [v] (truthy v))
structure SE (M : Sem) (k : Nat) (N : List Str) (sc : SC) (e : Expr) (e' : E) : Prop where
  v : ∀ X, CxOk M k N sc X → PE X e (tS X M e')
  t : ∀ X, CxOk M k N sc X → PT X e (tT X M e')
structure SEs (M : Sem) (k : Nat) (N : List Str) (sc : SC) (es : List Expr) (es' : Es) : Prop where
  a : ∀ X, CxOk M k N sc X → PA X es (tSs X M es')

theorem rep_bl {L : Lx} {K : PySem.W.Frag} {mg : Str → Option Value} {π : List Addr} {H : Hp} {b : Bool} {v : V} (h : Rep L K mg π H (.bl b) v) : v = .bl b := h

theorem pt_plain {X : Cx} {M : Sem} {e : Expr} {e' : E} (h : PE X e (tS X M e')) (p : PlainT e) : PT X e (tT X M e') := by
  refine (pt_val h (p X.env)).imp fun σ H Q q => ?_
  obtain ⟨π, σD, S, b, S', er, sr, ev, k⟩ := q
  exact ⟨π, σD, S, .bl b, S', er, sr, ev, fun v π' H' l r' rd => ⟨b, rd, k π' H' l r'⟩⟩
theorem SE.plain {M : Sem} {k : Nat} {N : List Str} {sc : SC} {e : Expr} {e' : E} (h : ∀ X, CxOk M k N sc X → PE X e (tS X M e')) (p : PlainT e) : SE M k N sc e e' := ⟨h, fun X c => pt_plain (h X c) p⟩

section
variable {M : Sem} {k : Nat} {N : List Str} {sc : SC}
theorem se_var {i : Nat} {x : Str} {pos : Pos} (hN : N[i]? = some x) (hv : Vis sc.toScope x) (hd : (x == ("__debug__" : Str)) = false) (hcd : (x == ("__classdict__" : Str)) = false) : SE M k N sc (.Name x pos) (.var i) := by
  refine .plain (fun X c => ?_) fun _ _ => rfl
  refine (pe_var (i := i) (by rw [c.n]; exact hN) (by rw [c.sc]; exact hv) hd hcd).imp fun σ H Q q => ?_
  obtain ⟨π, σD, S, d, S', er, sr, ev, kk⟩ := q
  unfold evE at ev
  cases hσ : σD[i]? with
  | none => rw [hσ] at ev; cases ev
  | some o =>
    cases o with
    | none => rw [hσ] at ev; cases ev
    | some v =>
      rw [hσ] at ev
      cases ev
      obtain ⟨w, e1, e2⟩ := er.at_ i _ hσ
      exact ⟨w, e1, kk w π H (Le.refl _ _) sr e2⟩
/-- a constant -/
theorem pe_lit {X : Cx} {e : Expr} {d : D} {v : V} (h : PE X e (tC v)) (r : ∀ π H, Rep M.L X.K X.mg π H d v) : PE X e (tS X M (.lit d)) := by
  refine h.imp fun σ H Q q => ?_
  obtain ⟨π, σD, S, d', S', er, sr, ev, kk⟩ := q
  unfold evE at ev
  cases ev
  exact kk v π H (Le.refl _ _) sr (r π H)
theorem se_int {i : Int} {j : Nat} {pos : Pos} : SE M k N sc (.Constant (.int i) j pos) (.lit (.int i)) := .plain (fun X c => pe_lit pe_int fun _ _ => rfl) fun _ _ => rfl
theorem se_bl {b : Bool} {j : Nat} {pos : Pos} : SE M k N sc (.Constant (.bool b) j pos) (.lit (.bl b)) := .plain (fun X c => pe_lit pe_bl fun _ _ => rfl) fun _ _ => rfl
theorem se_non {j : Nat} {pos : Pos} : SE M k N sc (.Constant .none j pos) (.lit .non) := .plain (fun X c => pe_lit pe_non fun _ _ => rfl) fun _ _ => rfl
theorem se_str {x : Str} {j : Nat} {pos : Pos} : SE M k N sc (.Constant (.str x) j pos) (.lit (.str x)) := .plain (fun X c => pe_lit pe_str fun _ _ => rfl) fun _ _ => rfl
theorem CxOk.gl {X : Cx} (c : CxOk M k N sc X) {x : Str} (h : sc.names.lookup x = some .globalImplicit) : Gl X x := by
  unfold Gl Env.kindOf
  rw [c.sc]; exact h
theorem se_glob {x : Str} {pos : Pos} (hg : sc.names.lookup x = some .globalImplicit) (hd : (x == ("__debug__" : Str)) = false) : SE M k N sc (.Name x pos) (.glob x) := by
  refine .plain (fun X c => ?_) fun _ _ => rfl
  refine ⟨fun pins s σ H Q I q => ?_⟩
  obtain ⟨π, σD, S, d, S', er, sr, ev, kk⟩ := q
  unfold evE at ev
  cases hx : M.glob x with
  | none => rw [hx] at ev; cases ev
  | some d' =>
    rw [hx] at ev; cases ev
    obtain ⟨u, v, e1, r, e2⟩ := c.fct.gl x _ hx
    exact (pe_glob (c.gl hg) e1 r hd).run pins s σ H Q I (kk v π H (Le.refl _ _) sr (e2 π H))
end
end PV

/-! PV4: operators. -/
namespace PV
open PySem PySem.Spec PyProof.Rows L2
theorem most_line {n : Nat} (h : n ≤ mostLen) : n ≤ sizeLine := Nat.le_trans h (by decide)
section
variable {L : Lx} {K : PySem.W.Frag} {mg : Str → Option Value} {π π' : List Addr} {H H' : Hp} {S S' : Sto}
/-- what is wanted of a value left behind -/
abbrev Kont (L : Lx) (K : PySem.W.Frag) (mg : Str → Option Value) (π : List Addr) (H : Hp) (d : D) (S : Sto) (Q : VK) : Prop := ∀ v π' H', Le π H π' H' → SRel L K mg π' H' S → Rep L K mg π' H' d v → Q v H'
theorem Kont.same {d : D} {Q : VK} {v : V} (k : Kont L K mg π H d S Q) (r : SRel L K mg π H S) (h : Rep L K mg π H d v) : Q v H := k v π H (Le.refl _ _) r h
theorem Kont.newL {ds : List D} {vs : List V} {Q : VK} (k : Kont L K mg π H (.loc S.length) (S ++ [.lst ds]) Q) (r : SRel L K mg π H S) (h : Reps L K mg π H ds vs) {p : Addr} (hp : H p = none) : Q (.ref p) (upd H p (.lst vs)) := by
  have l := Le.new (π := π) (u := HO.lst vs) hp
  refine k _ _ _ l (r.new hp ⟨vs, upd_same, Reps.le r l _ _ h⟩) ⟨p, rfl, ?_⟩
  rw [← r.len, List.getElem?_append_right (Nat.le_refl _)]
  simp
theorem Kont.newT {ds : List D} {vs : List V} {Q : VK} (k : Kont L K mg π H (.tup ds) S Q) (r : SRel L K mg π H S) (h : Reps L K mg π H ds vs) {p : Addr} (hp : H p = none) : Q (.ref p) (upd H p (.tup vs)) := by
  have l := Le.tup (π := π) (xs := vs) hp
  exact k _ _ _ l (r.tup hp) ⟨p, vs, rfl, .inl (.inl upd_same), Reps.le r l _ _ h⟩
theorem Kont.setL {n : Nat} {a : Addr} {ds : List D} {vs : List V} {d : D} {v : V} {Q : VK} (k : Kont L K mg π H d (S.set n (.lst ds)) Q) (r : SRel L K mg π H S) (ha : π[n]? = some a) (h : Reps L K mg π H ds vs) (hd : Rep L K mg π H d v) : Q v (upd H a (.lst vs)) := by
  have l := Le.set r (u := HO.lst vs) ha
  exact k _ _ _ l (r.set ha ⟨vs, upd_same, Reps.le r l _ _ h⟩) (Rep.le r l _ _ hd)
theorem rep_tup {ds : List D} {v : V} (h : Rep L K mg π H (.tup ds) v) : ∃ a vs, v = .ref a ∧ SqT K H a vs ∧ Reps L K mg π H ds vs := h
theorem rep_loc {n : Nat} {v : V} (h : Rep L K mg π H (.loc n) v) : ∃ a, v = .ref a ∧ π[n]? = some a := h
theorem rep_int {i : Int} {v : V} (h : Rep L K mg π H (.int i) v) : v = .int i := h
theorem rep_str {i : Str} {v : V} (h : Rep L K mg π H (.str i) v) : v = .str i := h
theorem lst_at (r : SRel L K mg π H S) {n : Nat} {ds : List D} {v : V} (h : S[n]? = some (.lst ds)) (hv : Rep L K mg π H (.loc n) v) : ∃ a vs, v = .ref a ∧ π[n]? = some a ∧ H a = some (.lst vs) ∧ Reps L K mg π H ds vs := by
  obtain ⟨a, e, ha⟩ := rep_loc hv
  obtain ⟨vs, h1, h2⟩ := r.at_ n _ a h ha
  exact ⟨a, vs, e, ha, h1, h2⟩
/-- a list that is read -/
theorem listOf_at (r : SRel L K mg π H S) {d : D} {ds : List D} {v : V} (h : listOf S d = some ds) (hv : Rep L K mg π H d v) : ∃ a vs n, v = .ref a ∧ d = .loc n ∧ π[n]? = some a ∧ SqL K H a vs ∧ Reps L K mg π H ds vs ∧ (S[n]? = some (.lst ds) ∨ S[n]? = some (.frz ds)) := by
  cases d with
  | loc n =>
    obtain ⟨a, e, ha⟩ := rep_loc hv
    have h' : (match S[n]? with
      | some (.lst ds) => some ds
      | some (.frz ds) => some ds
      | _ => none) = some ds := h
    cases q : S[n]? with
    | none => rw [q] at h'; cases h'
    | some o =>
      rw [q] at h'
      have z := r.at_ n o a q ha
      cases o with
      | lst es => cases h'; obtain ⟨vs, h1, h2⟩ := z; exact ⟨a, vs, n, e, rfl, ha, .inl (.inl h1), h2, .inl q⟩
      | frz es => cases h'; obtain ⟨ob, vs, h1, h2⟩ := z; exact ⟨a, vs, n, e, rfl, ha, .inl (.inr ⟨ob, h1⟩), h2, .inr q⟩
      | dct es => cases h'
      | ins c fs => cases h'
  | _ => cases h
theorem seqOf_at (r : SRel L K mg π H S) {d : D} {ds : List D} {v : V} (h : seqOf S d = some ds) (hv : Rep L K mg π H d v) : ∃ a vs, v = .ref a ∧ (SqL K H a vs ∨ SqT K H a vs) ∧ Reps L K mg π H ds vs := by
  cases d with
  | tup es =>
    cases h
    obtain ⟨a, vs, e, q, hs⟩ := rep_tup hv
    exact ⟨a, vs, e, .inr q, hs⟩
  | loc n =>
    obtain ⟨a, vs, m, e, _, _, q, hs, _⟩ := listOf_at r (d := .loc n) h hv
    exact ⟨a, vs, e, .inl q, hs⟩
  | non => cases h
  | bl b => cases h
  | int i => cases h
  | str x => cases h
  | glb x => cases h
  | ty n => cases h
  | lam i => cases h
end

section
variable {M : Sem} {k : Nat} {N : List Str} {sc : SC}
/-- two operands -/
theorem pe_two {X : Cx} {e : Expr} {a' b' : E} {r : R2} {f : D → D → Sto → Res D} {e' : E} (c : CxOk M k N sc X) (h : PE X e (tOp r (tS X M a') (tS X M b')))
    (he : ∀ σ S, evE M e' σ S = (evE M a' σ S).bind fun x S1 => (evE M b' σ S1).bind fun y S2 => f x y S2)
    (hr : ∀ π H S x y d S' v w Q, SRel M.L X.K X.mg π H S → Rep M.L X.K X.mg π H x v → Rep M.L X.K X.mg π H y w → f x y S = .ok d S' → Kont M.L X.K X.mg π H d S' Q → r v w H Q) : PE X e (tS X M e') := by
  refine h.imp fun σ H Q q => ?_
  obtain ⟨π, σD, S, d, S', er, sr, ev, kk⟩ := q
  rw [he] at ev
  cases ea : evE M a' σD S with
  | bad => rw [ea] at ev; cases ev
  | ok x S1 =>
    rw [ea, Res.bind_ok] at ev
    cases eb : evE M b' σD S1 with
    | bad => rw [eb] at ev; cases ev
    | ok y S2 =>
      rw [eb, Res.bind_ok] at ev
      refine ⟨π, σD, S, x, S1, er, sr, ea, fun v1 π1 H1 l1 r1 p1 => ⟨π1, σD, S1, y, S2, ERel.le sr l1 er, r1, eb, fun v2 π2 H2 l2 r2 p2 => ?_⟩⟩
      exact hr π2 H2 S2 x y d S' v1 v2 Q r2 (Rep.le r1 l2 _ _ p1) p2 ev fun v π' H' l r' p => kk v π' H' ((l1.trans l2).trans l) r' p
/-- one operand -/
theorem run_one {X : Cx} {e : Expr} {a' : E} {f : D → Sto → Res D} {e' : E} {t : TE} (h : PE X e t) (he : ∀ σ S, evE M e' σ S = (evE M a' σ S).bind f)
    (hr : ∀ σ H Q, tS X M a' σ H (fun v H1 => ∃ π S x d S', SRel M.L X.K X.mg π H1 S ∧ Rep M.L X.K X.mg π H1 x v ∧ f x S = .ok d S' ∧ Kont M.L X.K X.mg π H1 d S' Q) → t σ H Q) : PE X e (tS X M e') := by
  refine h.imp fun σ H Q q => hr σ H Q ?_
  obtain ⟨π, σD, S, d, S', er, sr, ev, kk⟩ := q
  rw [he] at ev
  cases ea : evE M a' σD S with
  | bad => rw [ea] at ev; cases ev
  | ok x S1 =>
    rw [ea, Res.bind_ok] at ev
    exact ⟨π, σD, S, x, S1, er, sr, ea, fun v1 π1 H1 l1 r1 p1 => ⟨π1, S1, x, d, S', r1, p1, ev, fun v π' H' l r' p => kk v π' H' (l1.trans l) r' p⟩⟩
theorem tS.mono {X : Cx} {a : E} {σ : L2.St} {H : Hp} {Q Q' : VK} (h : tS X M a σ H Q) (i : ∀ v H1, Q v H1 → Q' v H1) : tS X M a σ H Q' := by
  obtain ⟨π, σD, S, d, S', er, sr, ev, kk⟩ := h
  exact ⟨π, σD, S, d, S', er, sr, ev, fun v π' H' l r p => i _ _ (kk v π' H' l r p)⟩

section
variable {a b : Expr} {a' b' : E} {pos : Pos}
theorem se_bin {op : Operator} {r : Cx → R2} (ha : SE M k N sc a a') (hb : SE M k N sc b b') (ho : ∀ X : Cx, CxOk M k N sc X → OpR X (binaryOp op) (r X))
    (hr : ∀ X : Cx, CxOk M k N sc X → ∀ π H S x y d S' v w Q, SRel M.L X.K X.mg π H S → Rep M.L X.K X.mg π H x v → Rep M.L X.K X.mg π H y w → binD op x y S = .ok d S' → Kont M.L X.K X.mg π H d S' Q → r X v w H Q) : SE M k N sc (.BinOp a op b pos) (.bin op a' b') :=
  .plain (fun X c => pe_two c (pe_op (ho X c) (ha.v X c) (hb.v X c)) (fun σ S => by rw [evE] <;> rfl) (hr X c)) fun _ _ => rfl

theorem se_add (ha : SE M k N sc a a') (hb : SE M k N sc b b') : SE M k N sc (.BinOp a .Add b pos) (.bin .Add a' b') := by
  refine se_bin (r := fun X x y H Q => (rI0 (fun i j => .int (i + j)) x y H Q) ∨ (∃ i j, x = V.str i ∧ y = V.str j ∧ i.length + j.length ≤ sizeLine ∧ Q (.str (i ++ j)) H) ∨ rCatA X.K x y H Q ∨ rCat x y H Q) ha hb (fun X c => op_add.or (op_add_str.or (op_catA.or op_cat))) fun X c π H S x y d S' v w Q sr rx ry ev kk => ?_
  cases x with
  | int i =>
    cases y with
    | int j =>
      cases ev
      exact .inl ⟨i, j, rx, ry, kk.same sr rfl⟩
    | _ => cases ev
  | str i =>
    cases y with
    | str j =>
      have ev : (if i.length + j.length ≤ mostLen then Res.ok (D.str (i ++ j)) S else .bad) = .ok d S' := ev
      split at ev
      · rename_i hz
        cases ev
        exact .inr (.inl ⟨i, j, rx, ry, most_line hz, kk.same sr rfl⟩)
      · cases ev
    | _ => cases ev
  | tup ds =>
    cases y with
    | tup es =>
      have ev : (if ds.length + es.length ≤ mostLen then Res.ok (D.tup (ds ++ es)) S else .bad) = .ok d S' := ev
      split at ev
      · rename_i hz
        cases ev
        obtain ⟨p, vs, e1, q1, r1⟩ := rep_tup rx
        obtain ⟨q, us, e2, q2, r2⟩ := rep_tup ry
        have l1 := r1.length
        have l2 := r2.length
        refine .inr (.inr (.inl ⟨p, q, vs, us, e1, e2, q1, q2, most_line (by omega), fun h => ?_, fun h1 h2 => ?_, fun h1 h2 z hz => kk.newT sr (r1.append r2) hz⟩))
        · have : ds = [] := by rw [h] at l1; exact List.length_eq_zero_iff.mp l1
          subst this
          exact kk.same sr (v := .ref q) ⟨q, us, rfl, q2, r2⟩
        · have : es = [] := by rw [h2] at l2; exact List.length_eq_zero_iff.mp l2
          subst this
          refine kk.same sr (v := .ref p) ⟨p, vs, rfl, q1, ?_⟩
          rw [List.append_nil]; exact r1
      · cases ev
    | _ => cases ev
  | loc m =>
    cases y with
    | loc n =>
      have ev : (match S[m]?, S[n]? with
        | some (.lst a), some (.lst b) => if a.length + b.length ≤ mostLen then newO (.lst (a ++ b)) S else .bad
        | _, _ => .bad) = .ok d S' := ev
      split at ev
      · rename_i da db hm hn
        split at ev
        · rename_i hz
          cases ev
          obtain ⟨p, vs, e1, _, q1, r1⟩ := lst_at sr hm rx
          obtain ⟨q, us, e2, _, q2, r2⟩ := lst_at sr hn ry
          have l1 := r1.length
          have l2 := r2.length
          exact .inr (.inr (.inr ⟨p, q, vs, us, e1, e2, q1, q2, most_line (by omega), fun z hz => kk.newL sr (r1.append r2) hz⟩))
        · cases ev
      · cases ev
    | _ => cases ev
  | _ => cases ev
theorem se_sub (ha : SE M k N sc a a') (hb : SE M k N sc b b') : SE M k N sc (.BinOp a .Sub b pos) (.bin .Sub a' b') := by
  refine se_bin (r := fun X => rI0 (fun i j => .int (i - j))) ha hb (fun X c => op_sub) fun X c π H S x y d S' v w Q sr rx ry ev kk => ?_
  cases x with
  | int i =>
    cases y with
    | int j =>
      cases ev
      exact ⟨i, j, rx, ry, kk.same sr rfl⟩
    | _ => cases ev
  | _ => cases ev
theorem mulOk.w {i j : Int} (h : mulOk i j) : CMulW i j := by
  unfold mulOk at h
  unfold CMulW
  omega
theorem se_mul (ha : SE M k N sc a a') (hb : SE M k N sc b b') : SE M k N sc (.BinOp a .Mult b pos) (.bin .Mult a' b') := by
  refine se_bin (r := fun X x y H Q => rI CMulW (fun i j => .int (i * j)) x y H Q ∨ rRepT X.K x y H Q ∨ rRep x y H Q) ha hb (fun X c => op_mulW.or (op_repT.or op_rep)) fun X c π H S x y d S' v w Q sr rx ry ev kk => ?_
  cases x with
  | int i =>
    cases y with
    | int j =>
      have ev : (if mulOk i j then Res.ok (D.int (i * j)) S else .bad) = .ok d S' := ev
      split at ev
      · rename_i hz
        cases ev
        exact .inl ⟨i, j, rx, ry, hz.w, kk.same sr rfl⟩
      · cases ev
    | _ => cases ev
  | tup ds =>
    cases y with
    | int j =>
      have ev : (if ds ≠ [] ∧ 2 ≤ j ∧ j ≤ 1000 ∧ ds.length ≤ 1000 then Res.ok (D.tup (List.replicate j.toNat ds).flatten) S else .bad) = .ok d S' := ev
      split at ev
      · rename_i hz
        cases ev
        obtain ⟨p, vs, e1, q1, r1⟩ := rep_tup rx
        have l1 := r1.length
        refine .inr (.inl ⟨p, j, vs, e1, ry, q1, fun e => hz.1 ?_, hz.2.1, hz.2.2.1, by omega, fun z hz => kk.newT sr (r1.flatten _) hz⟩)
        rw [e] at l1
        exact List.length_eq_zero_iff.mp l1
      · cases ev
    | _ => cases ev
  | loc m =>
    cases y with
    | int j =>
      have ev : (match S[m]? with
        | some (.lst a) => if 0 ≤ j ∧ j ≤ 1000 ∧ a.length ≤ 100 then newO (.lst (List.replicate j.toNat a).flatten) S else .bad
        | _ => .bad) = .ok d S' := ev
      split at ev
      · rename_i da hm
        split at ev
        · rename_i hz
          cases ev
          obtain ⟨p, vs, e1, _, q1, r1⟩ := lst_at sr hm rx
          have l1 := r1.length
          have hm : vs.length * j.toNat ≤ 100 * 1000 := Nat.mul_le_mul (by omega) (by omega)
          exact .inr (.inr ⟨p, j, vs, e1, ry, q1, by omega, by omega, Nat.le_trans hm (by decide), fun z hz => kk.newL sr (r1.flatten _) hz⟩)
        · cases ev
      · cases ev
    | _ => cases ev
  | _ => cases ev
theorem op_fdivN9 {X : Cx} : OpR X (binaryOp .FloorDiv) (rI (fun _ j => divOk j) fun i j => .int (i.fdiv j)) := opI fun i j _ _ _ _ _ hc q =>
  floordiv_int hc.1 q (.inl (PyProof.noPylong_of_log2 hc.2))
theorem se_div (ha : SE M k N sc a a') (hb : SE M k N sc b b') : SE M k N sc (.BinOp a .FloorDiv b pos) (.bin .FloorDiv a' b') := by
  refine se_bin (r := fun X => rI (fun _ j => divOk j) fun i j => .int (i.fdiv j)) ha hb (fun X c => op_fdivN9) fun X c π H S x y d S' v w Q sr rx ry ev kk => ?_
  cases x with
  | int i =>
    cases y with
    | int j =>
      have ev : (if divOk j then Res.ok (D.int (i.fdiv j)) S else .bad) = .ok d S' := ev
      split at ev
      · rename_i hz
        cases ev
        exact ⟨i, j, rx, ry, hz, kk.same sr rfl⟩
      · cases ev
    | _ => cases ev
  | _ => cases ev
theorem se_mod (ha : SE M k N sc a a') (hb : SE M k N sc b b') : SE M k N sc (.BinOp a .Mod b pos) (.bin .Mod a' b') := by
  refine se_bin (r := fun X => rI (fun _ j => j ≠ 0) fun i j => .int (i.fmod j)) ha hb (fun X c => op_modN) fun X c π H S x y d S' v w Q sr rx ry ev kk => ?_
  cases x with
  | int i =>
    cases y with
    | int j =>
      have ev : (if j ≠ 0 then Res.ok (D.int (i.fmod j)) S else .bad) = .ok d S' := ev
      split at ev
      · rename_i hz
        cases ev
        exact ⟨i, j, rx, ry, hz, kk.same sr rfl⟩
      · cases ev
    | _ => cases ev
  | _ => cases ev
theorem se_pow (ha : SE M k N sc a a') (hb : SE M k N sc b b') : SE M k N sc (.BinOp a .Pow b pos) (.bin .Pow a' b') := by
  refine se_bin (r := fun X => rI CPow fun i j => .int (i ^ j.toNat)) ha hb (fun X c => op_pow) fun X c π H S x y d S' v w Q sr rx ry ev kk => ?_
  cases x with
  | int i =>
    cases y with
    | int j =>
      have ev : (if powOk i j then Res.ok (D.int (i ^ j.toNat)) S else .bad) = .ok d S' := ev
      split at ev
      · rename_i hz
        cases ev
        exact ⟨i, j, rx, ry, hz, kk.same sr rfl⟩
      · cases ev
    | _ => cases ev
  | _ => cases ev
theorem se_neg (ha : SE M k N sc a a') : SE M k N sc (.UnaryOp .USub a pos) (.neg a') := by
  refine .plain (fun X c => run_one (f := fun x S1 => match x with | .int i => .ok (.int (-i)) S1 | _ => .bad) (pe_un un_neg (ha.v X c)) (fun σ S => by rw [evE] <;> rfl) fun σ H Q h => h.mono fun v H1 ⟨π, S, x, d, S', sr, rx, ev, kk⟩ => ?_) fun _ _ => rfl
  cases x with
  | int i => cases ev; exact ⟨i, rx, kk.same sr rfl⟩
  | _ => cases ev
end
end
end PV

/-! PV5: tests, comparisons, displays, parts. -/
namespace PV
open PySem PySem.Spec PyProof.Rows L2
section
variable {M : Sem} {k : Nat} {N : List Str} {sc : SC} {a b c : Expr} {a' b' c' : E} {pos : Pos}

/-- an evaluation taken apart -/
theorem bind_ok {α β : Type} {r : Res α} {f : α → Sto → Res β} {b : β} {S' : Sto} (h : r.bind f = .ok b S') : ∃ a S1, r = .ok a S1 ∧ f a S1 = .ok b S' := by
  cases r with
  | ok a S1 => exact ⟨a, S1, rfl, h⟩
  | bad => cases h
theorem tT.mono {X : Cx} {a : E} {σ : L2.St} {H : Hp} {Q Q' : Bool → Hp → Prop} (h : tT X M a σ H Q) (i : ∀ v H1, Q v H1 → Q' v H1) : tT X M a σ H Q' := by
  obtain ⟨π, σD, S, d, S', er, sr, ev, kk⟩ := h
  exact ⟨π, σD, S, d, S', er, sr, ev, fun π' H' l r => i _ _ (kk π' H' l r)⟩

/-! ### not -/
theorem se_not (ha : SE M k N sc a a') : SE M k N sc (.UnaryOp .Not a pos) (.not a') := by
  refine ⟨fun X cx => ?_, fun X cx => ?_⟩
  · refine run_one (f := fun x S1 => match x with | .bl b => .ok (.bl (!b)) S1 | _ => .bad) (pe_not (ha.v X cx)) (fun σ S => by rw [evE] <;> rfl) fun σ H Q h => h.mono fun v H1 ⟨π, S, x, d, S', sr, rx, ev, kk⟩ => ?_
    cases x with
    | bl b => cases ev; exact ⟨b, rx, kk.same sr rfl⟩
    | _ => cases ev
  · refine (pt_not (ha.t X cx)).imp fun σ H Q q => ?_
    obtain ⟨π, σD, S, b, S', er, sr, ev, kk⟩ := q
    unfold evE at ev
    obtain ⟨x, S1, e1, e2⟩ := bind_ok ev
    cases x with
    | bl c =>
      cases e2
      exact ⟨π, σD, S, c, _, er, sr, e1, fun π' H' l r => kk π' H' l r⟩
    | _ => cases e2
/-! ### and, or -/
structure SB (M : Sem) (k : Nat) (N : List Str) (sc : SC) (e : Expr) (e' : E) : Prop where
  v : ∀ X, CxOk M k N sc X → PE X e (tS X M e')
  w : ∀ X, CxOk M k N sc X → PW X e (tT X M e')
theorem SB.se (h : SB M k N sc a a') : SE M k N sc a a' := ⟨h.v, fun X cx => (h.w X cx).pt⟩
theorem _root_.L2.PW.imp {X : Cx} {e : Expr} {t t' : TT} (h : PW X e t) (i : ∀ σ H Q, t' σ H Q → t σ H Q) : PW X e t' := ⟨fun wh pins s σ H Q I q => h.run wh pins s σ H Q I (i σ H Q q)⟩
theorem sb_one {op : BoolOp} (ha : SE M k N sc a a') : SB M k N sc (.BoolOp op [a] pos) a' := ⟨fun X cx => pe_one (ha.v X cx), fun X cx => by
  cases op with
  | And => exact pw_and1 (ha.t X cx)
  | Or => exact pw_or1 (ha.t X cx)⟩
variable {rest : List Expr}
theorem sb_and (ha : SE M k N sc a a') (hb : SB M k N sc (.BoolOp .And (b :: rest) pos) b') : SB M k N sc (.BoolOp .And (a :: b :: rest) pos) (.and a' b') := by
  refine ⟨fun X cx => (pe_and (ha.v X cx) (hb.v X cx)).imp fun σ H Q q => ?_, fun X cx => (pw_and (ha.t X cx) (hb.w X cx)).imp fun σ H Q q => ?_⟩
  · obtain ⟨π, σD, S, d, S', er, sr, ev, kk⟩ := q
    unfold evE at ev
    obtain ⟨x, S1, e1, e2⟩ := bind_ok ev
    refine ⟨π, σD, S, x, S1, er, sr, e1, fun v π1 H1 l1 r1 p1 => ?_⟩
    cases x with
    | bl c =>
      refine ⟨c, p1, ?_⟩
      cases c with
      | true => exact ⟨π1, σD, S1, d, S', ERel.le sr l1 er, r1, e2, fun v π' H' l r p => kk v π' H' (l1.trans l) r p⟩
      | false => cases e2; exact kk _ π1 H1 l1 r1 rfl
    | _ => cases e2
  · obtain ⟨π, σD, S, d, S', er, sr, ev, kk⟩ := q
    unfold evE at ev
    obtain ⟨x, S1, e1, e2⟩ := bind_ok ev
    cases x with
    | bl c =>
      refine ⟨π, σD, S, c, S1, er, sr, e1, fun π1 H1 l1 r1 => ?_⟩
      cases c with
      | true => exact ⟨π1, σD, S1, d, S', ERel.le sr l1 er, r1, e2, fun π' H' l r => kk π' H' (l1.trans l) r⟩
      | false => cases e2; exact kk π1 H1 l1 r1
    | _ => cases e2
theorem sb_or (ha : SE M k N sc a a') (hb : SB M k N sc (.BoolOp .Or (b :: rest) pos) b') : SB M k N sc (.BoolOp .Or (a :: b :: rest) pos) (.or a' b') := by
  refine ⟨fun X cx => (pe_or (ha.v X cx) (hb.v X cx)).imp fun σ H Q q => ?_, fun X cx => (pw_or (ha.t X cx) (hb.w X cx)).imp fun σ H Q q => ?_⟩
  · obtain ⟨π, σD, S, d, S', er, sr, ev, kk⟩ := q
    unfold evE at ev
    obtain ⟨x, S1, e1, e2⟩ := bind_ok ev
    refine ⟨π, σD, S, x, S1, er, sr, e1, fun v π1 H1 l1 r1 p1 => ?_⟩
    cases x with
    | bl c =>
      refine ⟨c, p1, ?_⟩
      cases c with
      | false => exact ⟨π1, σD, S1, d, S', ERel.le sr l1 er, r1, e2, fun v π' H' l r p => kk v π' H' (l1.trans l) r p⟩
      | true => cases e2; exact kk _ π1 H1 l1 r1 rfl
    | _ => cases e2
  · obtain ⟨π, σD, S, d, S', er, sr, ev, kk⟩ := q
    unfold evE at ev
    obtain ⟨x, S1, e1, e2⟩ := bind_ok ev
    cases x with
    | bl c =>
      refine ⟨π, σD, S, c, S1, er, sr, e1, fun π1 H1 l1 r1 => ?_⟩
      cases c with
      | false => exact ⟨π1, σD, S1, d, S', ERel.le sr l1 er, r1, e2, fun π' H' l r => kk π' H' (l1.trans l) r⟩
      | true => cases e2; exact kk π1 H1 l1 r1
    | _ => cases e2
/-! ### a if c else b -/
def tIfT (t u v : TT) : TT := fun σ H Q => t σ H fun c H1 => if c = true then u σ H1 Q else v σ H1 Q
theorem pt_ifExp {X : Cx} {t u v : TT} (hc : PT X c t) (ha : PT X a u) (hb : PT X b v) : PT X (.IfExp c a b pos) (tIfT t u v) := by
  refine ⟨fun pins s σ H Q I h => ?_⟩
  show wpAny _ _ (do if ← isTrue c X.env (eval c X.env) then isTrue a X.env (eval a X.env) else isTrue b X.env (eval b X.env)) _ _ s
  refine wpAny_bind (thn (hc.run pins s σ H _ I h) fun d s1 ⟨H1, I1, q1⟩ => ?_)
  cases d with
  | true => exact ha.run pins s1 σ H1 Q I1 q1
  | false => exact hb.run pins s1 σ H1 Q I1 q1
theorem se_ite (hc : SE M k N sc c c') (ha : SE M k N sc a a') (hb : SE M k N sc b b') : SE M k N sc (.IfExp c a b pos) (.ite c' a' b') := by
  refine ⟨fun X cx => (pe_ifExp (hc.t X cx) (ha.v X cx) (hb.v X cx)).imp fun σ H Q q => ?_, fun X cx => (pt_ifExp (hc.t X cx) (ha.t X cx) (hb.t X cx)).imp fun σ H Q q => ?_⟩
  · obtain ⟨π, σD, S, d, S', er, sr, ev, kk⟩ := q
    unfold evE at ev
    obtain ⟨x, S1, e1, e2⟩ := bind_ok ev
    cases x with
    | bl c =>
      refine ⟨π, σD, S, c, S1, er, sr, e1, fun π1 H1 l1 r1 => ?_⟩
      cases c with
      | true => exact ⟨π1, σD, S1, d, S', ERel.le sr l1 er, r1, e2, fun v π' H' l r p => kk v π' H' (l1.trans l) r p⟩
      | false => exact ⟨π1, σD, S1, d, S', ERel.le sr l1 er, r1, e2, fun v π' H' l r p => kk v π' H' (l1.trans l) r p⟩
    | _ => cases e2
  · obtain ⟨π, σD, S, d, S', er, sr, ev, kk⟩ := q
    unfold evE at ev
    obtain ⟨x, S1, e1, e2⟩ := bind_ok ev
    cases x with
    | bl c =>
      refine ⟨π, σD, S, c, S1, er, sr, e1, fun π1 H1 l1 r1 => ?_⟩
      cases c with
      | true => exact ⟨π1, σD, S1, d, S', ERel.le sr l1 er, r1, e2, fun π' H' l r => kk π' H' (l1.trans l) r⟩
      | false => exact ⟨π1, σD, S1, d, S', ERel.le sr l1 er, r1, e2, fun π' H' l r => kk π' H' (l1.trans l) r⟩
    | _ => cases e2
/-! ### comparisons -/
section
variable {L : Lx} {K : PySem.W.Frag} {mg : Str → Option Value} {π π' : List Addr} {H H' : Hp} {S S' : Sto}
theorem toPy_dp (r : SRel L K mg π H S) : ∀ (n : Nat) (d : D) (v : V) (p : PyData), toPy S n d = some p → Rep L K mg π H d v → Dp K H v p := by
  intro n
  induction n with
  | zero => intro d v p h; cases h
  | succ n ih =>
    have all : ∀ (ds : List D) (vs : List V) (ps : List PyData), ds.mapM (toPy S n) = some ps → Reps L K mg π H ds vs → DpAll K H vs ps := by
      intro ds
      induction ds with
      | nil =>
        intro vs ps h hr
        have e : vs = [] := hr
        rw [e]
        cases h
        exact .nil
      | cons d ds ihd =>
        intro vs ps h hr
        obtain ⟨v, t, e, h1, h2⟩ := hr
        rw [e]
        rw [List.mapM_cons] at h
        cases hd : toPy S n d with
        | none => rw [hd] at h; cases h
        | some q =>
          rw [hd] at h
          cases hs : ds.mapM (toPy S n) with
          | none => rw [hs] at h; cases h
          | some qs =>
            rw [hs] at h
            cases h
            exact .cons (ih d v q hd h1) (ihd t qs hs h2)
    intro d v p h hr
    cases d with
    | non => cases h; cases (show v = .non from hr); exact .non
    | bl b => cases h; cases (show v = .bl b from hr); exact .bl b
    | int i => cases h; cases (show v = .int i from hr); exact .int i
    | str x => cases h; cases (show v = .str x from hr); exact .str x
    | tup ds =>
      obtain ⟨a, vs, e, q, hs⟩ := rep_tup hr
      have h' : (ds.mapM (toPy S n)).map PyData.tuple = some p := h
      cases e2 : ds.mapM (toPy S n) with
      | none => rw [e2] at h'; cases h'
      | some ps =>
        rw [e2] at h'; cases h'
        rw [e]
        exact .tup q (all ds vs ps e2 hs)
    | loc m =>
      have h' : (match listOf S (.loc m) with
        | some ds => (ds.mapM (toPy S n)).map PyData.list
        | none => none) = some p := h
      cases e1 : listOf S (.loc m) with
      | none => rw [e1] at h'; cases h'
      | some ds =>
        rw [e1] at h'
        obtain ⟨a, vs, _, e, _, _, q, hs, _⟩ := listOf_at r e1 hr
        have h' : (ds.mapM (toPy S n)).map PyData.list = some p := h'
        cases e2 : ds.mapM (toPy S n) with
        | none => rw [e2] at h'; cases h'
        | some ps =>
          rw [e2] at h'; cases h'
          rw [e]
          exact .lst q (all ds vs ps e2 hs)
    | glb x => cases h
    | ty x => cases h
    | lam x => cases h
theorem eqD_at (r : SRel L K mg π H S) {x y : D} {v w : V} {t : Bool} (h : eqD S x y = some t) (hx : Rep L K mg π H x v) (hy : Rep L K mg π H y w) : ∃ d e, Dp K H v d ∧ Dp K H w e ∧ SeqAt.shaped d = true ∧ SeqAt.shaped e = true ∧ t = PyData.eqv d e := by
  unfold eqD at h
  split at h
  · rename_i d e h1 h2
    split at h
    · rename_i hs
      cases h
      exact ⟨d, e, toPy_dp r _ _ _ _ h1 hx, toPy_dp r _ _ _ _ h2 hy, hs.1, hs.2, rfl⟩
    · cases h
  · cases h
def toV : D → V
  | .bl b => .bl b | .int i => .int i | .str x => .str x | _ => .non
theorem flat_at {d : D} {v : V} (h : flat d = true) (r : Rep L K mg π H d v) : v = toV d ∧ flatV v = true := by
  cases d with
  | non => cases (show v = .non from r); exact ⟨rfl, rfl⟩
  | bl b => cases (show v = .bl b from r); exact ⟨rfl, rfl⟩
  | int b => cases (show v = .int b from r); exact ⟨rfl, rfl⟩
  | str b => cases (show v = .str b from r); exact ⟨rfl, rfl⟩
  | _ => cases h
theorem flats_at : ∀ {ds : List D} {vs : List V}, ds.all flat = true → Reps L K mg π H ds vs → vs = ds.map toV ∧ vs.all flatV = true
  | [], vs, _, r => by
    have e : vs = [] := r
    rw [e]; exact ⟨rfl, rfl⟩
  | d :: ds, vs, h, r => by
    obtain ⟨v, t, e, h1, h2⟩ := r
    rw [List.all_cons, Bool.and_eq_true] at h
    obtain ⟨e1, f1⟩ := flat_at h.1 h1
    obtain ⟨e2, f2⟩ := flats_at h.2 h2
    rw [e, List.map_cons, ← e1, ← e2, List.all_cons, f1, f2]
    exact ⟨rfl, rfl⟩
theorem eqV_toV {x y : D} (hx : flat x = true) (hy : flat y = true) : eqV (toV y) (toV x) = flatEq y x := by
  cases y <;> cases x <;> first | rfl | (cases hx; done) | (cases hy; done)
theorem inV_at {x : D} (hx : flat x = true) : ∀ {ds : List D}, ds.all flat = true → inV (toV x) (ds.map toV) = ds.any fun d => flatEq d x
  | [], _ => rfl
  | d :: ds, h => by
    rw [List.all_cons, Bool.and_eq_true] at h
    have ih := inV_at hx h.2
    unfold inV at ih ⊢
    rw [List.map_cons, List.any_cons, List.any_cons, ih, eqV_toV hx h.1]
theorem inD_at (r : SRel L K mg π H S) {x y : D} {v w : V} {t : Bool} (h : inD x y S = some t) (hx : Rep L K mg π H x v) (hy : Rep L K mg π H y w) : ∃ p xs, w = .ref p ∧ (SqL K H p xs ∨ SqT K H p xs) ∧ flatV v = true ∧ xs.all flatV = true ∧ t = inV v xs := by
  unfold inD at h
  split at h
  · rename_i ds hs
    split at h
    · rename_i hf
      cases h
      obtain ⟨p, xs, e, q, rs⟩ := seqOf_at r hs hy
      obtain ⟨e1, f1⟩ := flat_at hf.1 hx
      obtain ⟨e2, f2⟩ := flats_at hf.2 rs
      refine ⟨p, xs, e, q, f1, f2, ?_⟩
      rw [e1, e2, inV_at hf.1 hf.2]
    · cases h
  · cases h
end
/-- a comparison whose rule is r -/
theorem se_cmp {op : CmpOp} {r : Cx → R2} (ha : SE M k N sc a a') (hb : SE M k N sc b b') (hm : behindInMarks op b = false) (ho : ∀ X : Cx, CxOk M k N sc X → OpR X (compareOp op) (r X))
    (hr : ∀ X : Cx, CxOk M k N sc X → ∀ π H S x y d S' v w Q, SRel M.L X.K X.mg π H S → Rep M.L X.K X.mg π H x v → Rep M.L X.K X.mg π H y w → cmpD M.mcall M.cls op x y S = .ok d S' → Kont M.L X.K X.mg π H d S' Q → r X v w H Q) : SE M k N sc (.Compare a [op] [b] pos) (.cmp op a' b') := by
  refine ⟨fun X cx => pe_two cx (pe_cmpR (ho X cx) (ha.v X cx) (hb.v X cx) hm) (fun σ S => by rw [evE] <;> rfl) (hr X cx), fun X cx => ?_⟩
  refine (pt_cmpR (ho X cx) (ha.v X cx) (hb.v X cx) hm).imp fun σ H Q q => ?_
  obtain ⟨π, σD, S, t, S', er, sr, ev, kk⟩ := q
  unfold evE at ev
  obtain ⟨x, S1, e1, e2⟩ := bind_ok ev
  obtain ⟨y, S2, e3, e4⟩ := bind_ok e2
  refine ⟨π, σD, S, x, S1, er, sr, e1, fun v1 π1 H1 l1 r1 p1 => ⟨π1, σD, S1, y, S2, ERel.le sr l1 er, r1, e3, fun v2 π2 H2 l2 r2 p2 => ?_⟩⟩
  exact hr X cx π2 H2 S2 x y _ S' v1 v2 _ r2 (Rep.le r1 l2 _ _ p1) p2 e4 fun v π' H' l r' p => ⟨t, p, kk π' H' ((l1.trans l2).trans l) r'⟩
/-! ### types -/
theorem tyx_tup {K : PySem.W.Frag} {H : Hp} {a : Addr} {vs : List V} (h : SqT K H a vs) : TyX K H (.ref a) (.type "tuple") := by
  rcases h with (h | ⟨o, h⟩) | ⟨o, its, n, hk, hc, _⟩
  · exact .base (.tup h)
  · exact .fTuple h
  · exact .kTuple hk hc
/-- a value's type in the model -/
def TyV (mg : Str → Option Value) : Sum String Str → Value → Prop
  | .inl n, t => t = .type n
  | .inr c, t => ∃ CA, mg c = some (.ref CA) ∧ t = .ref CA
theorem tyD_at {X : Cx} {π : List Addr} {H : Hp} {S : Sto} {x : D} {v : V} {t : Sum String Str} (cx : CxOk M k N sc X) (sr : SRel M.L X.K X.mg π H S) (h : tyD S x = some t) (hc : ∀ c, t = .inr c → M.cls c = true) (r : Rep M.L X.K X.mg π H x v) : ∃ u, TyX X.K H v u ∧ TyV X.mg t u ∧ (∀ n, t = .inl n → n ∈ tyNames) := by
  cases x with
  | non => cases h; obtain rfl := r; exact ⟨_, .base .non, rfl, fun n e => by cases e; decide⟩
  | bl b => cases h; obtain rfl := r; exact ⟨_, .base (.bl b), rfl, fun n e => by cases e; decide⟩
  | int b => cases h; obtain rfl := r; exact ⟨_, .base (.int b), rfl, fun n e => by cases e; decide⟩
  | str b => cases h; obtain rfl := r; exact ⟨_, .base (.str b), rfl, fun n e => by cases e; decide⟩
  | tup ds =>
    cases h
    obtain ⟨p, vs, rfl, q, _⟩ := rep_tup r
    exact ⟨_, tyx_tup q, rfl, fun n e => by cases e; decide⟩
  | loc n =>
    obtain ⟨p, rfl, hp⟩ := rep_loc r
    have h : (match S[n]? with
      | some (.lst _) => some (Sum.inl "list") | some (.frz _) => some (.inl "list") | some (.dct _) => some (.inl "dict") | some (.ins c _) => some (.inr c) | none => none) = some t := h
    cases e : S[n]? with
    | none => rw [e] at h; cases h
    | some o =>
      rw [e] at h
      have z := sr.at_ n o p e hp
      cases o with
      | lst ds => cases h; obtain ⟨vs, h1, _⟩ := z; exact ⟨_, .base (.lst h1), rfl, fun n e => by cases e; decide⟩
      | frz ds => cases h; obtain ⟨ob, vs, h1, _⟩ := z; exact ⟨_, .base (.frz h1), rfl, fun n e => by cases e; decide⟩
      | dct ds => cases h; obtain ⟨ws, h1, _⟩ := z; exact ⟨_, .base (.dK h1), rfl, fun n e => by cases e; decide⟩
      | ins c fs =>
        cases h
        obtain ⟨CA, dx, ws, h0, h1, _⟩ := z
        obtain ⟨f, _⟩ := cx.fct.cls c (hc c rfl) CA h0
        exact ⟨_, .base (.ins h1 f.cl f.ha f.hn f.htk f.hm), ⟨CA, h0, rfl⟩, fun n e => by cases e⟩
  | glb x => cases h
  | ty x => cases h
  | lam i => cases h
/-! ### == of an own class -/
def rOwn (X : Cx) (nm : Str) (k : Nat) : R2 := fun x y H Q => ∃ (a C dx : Addr) (fs : List (Str × V)) (t : Value) (f : Addr) (fd : FuncData) (ps : List Str) (sp : Sp), x = .ref a ∧ H a = some (.ins C dx fs) ∧ TyX X.K H y t ∧ PySem.W.notFirst X.K C t = true ∧
  PySem.W.findIn X.K (.ref C) nm = some (some (.ref f)) ∧ PySem.W.isFn X.K (.ref f) = true ∧ Binds X.K fd ps [] ∧ FnOk X.prog X.w X.K X.mg X.base CX0 k f fd ps sp ∧ sp [x, y] H Q E0
theorem op_own {X : Cx} {op : CmpOp} (hr : Room k X.A) (ho : compareOp op = richCompare op) : OpR X (compareOp op) (rOwn X (PySem.cmpInfo op).2.1 k) := by
  intro pins s σ H x y v u Q I rx ry h
  obtain ⟨a, C, dx, fs, t, f, fd, ps, sp, rfl, ha, ty, nf, hs, hf, hb, F, hsp⟩ := h
  cases rx
  obtain ⟨mA, J, _⟩ := ins_get I.hok ha
  obtain ⟨od, J, _⟩ := J.look
  obtain ⟨P, Z, p, hx⟩ := kit_of I ry ty
  obtain ⟨m, hF⟩ := I.fr
  rw [ho]
  refine PySem.W.cmp_K (tb := t) hr.units0 hF I.ok.mod.kin J (Z.ty _ _ I.kIn p) nf hs hf ?_
  refine wpAny_mono (run_fn (us := [.ref a, u]) (vs := [.ref a, y]) (dvs := []) F hr hb .nil (E := E0) (fun _ _ _ _ _ _ _ h => h.elim) I (.cons rfl (.cons ry .nil)) (by rw [List.append_nil]; exact hsp)) (fun r s' hq => ?_) fun _ _ x => x
  obtain ⟨v, H', I', rv, q⟩ := hq
  cases v with
  | non => cases rv; exact ⟨V.non, H', I', rfl, q⟩
  | bl b => cases rv; exact ⟨V.bl b, H', I', rfl, q⟩
  | int b => obtain ⟨t, rfl⟩ := rv; exact ⟨V.int b, H', I', ⟨_, rfl⟩, q⟩
  | str b => obtain ⟨t, rfl⟩ := rv; exact ⟨V.str b, H', I', ⟨_, rfl⟩, q⟩
  | byt b => obtain ⟨t, rfl⟩ := rv; exact ⟨V.byt b, H', I', ⟨_, rfl⟩, q⟩
  | flt b => obtain ⟨t, rfl⟩ := rv; exact ⟨V.flt b, H', I', ⟨_, rfl⟩, q⟩
  | ref b => cases rv; exact ⟨V.ref b, H', I', rfl, q⟩
  | ty b => cases rv; exact ⟨V.ty b, H', I', rfl, q⟩
theorem own_at {X : Cx} (cx : CxOk M k N sc X) {m c : Str} {π : List Addr} {H : Hp} {S : Sto} {x y d : D} {S' : Sto} {v w : V} {Q : VK} (hm : m = ("__eq__" : Str) ∨ m = ("__ne__" : Str)) (sr : SRel M.L X.K X.mg π H S) (rx : Rep M.L X.K X.mg π H x v) (ry : Rep M.L X.K X.mg π H y w)
    (hi : insOf S x = some c) (ev : ownCmp M.mcall M.cls m c x y S = .ok d S') (kk : Kont M.L X.K X.mg π H d S' Q) : rOwn X m k v w H Q := by
  cases x with
  | loc n =>
    have hi : (match S[n]? with | some (.ins c _) => some c | _ => none) = some c := hi
    split at hi
    · rename_i c' fs hS
      cases hi
      obtain ⟨p, rfl, hp⟩ := rep_loc rx
      obtain ⟨CA, dx, ws, h0, h1, _⟩ := sr.at_ n _ p hS hp
      have key : M.cls c = true → ∀ t, tyD S y = some t → (∀ c', t = .inr c' → M.cls c' = true) → M.mcall c m [.loc n, y] S = .ok d S' → rOwn X m k (.ref p) w H Q := fun hc t ht hk e => by
        obtain ⟨u, t1, t2, t3⟩ := tyD_at cx sr ht hk ry
        obtain ⟨fa, fd, ps, f1, f2, f3, F⟩ := cx.fct.mth c m _ _ _ _ hm e CA h0
        obtain ⟨g1, g2, g3⟩ := cx.fct.cls c hc CA h0
        refine ⟨p, CA, dx, ws, u, fa, fd, ps, _, rfl, h1, t1, ?_, f1, f2, f3, F, π, S, [.loc n, y], d, S', sr, ⟨_, _, rfl, rx, _, _, rfl, ry, rfl⟩, e, kk⟩
        cases t with
        | inl a => obtain rfl := t2; exact (g2 a (t3 a rfl)).2.2
        | inr c' => obtain ⟨CB, h2, rfl⟩ := t2; exact (g3 c' CB (hk c' rfl) h2).2
      unfold ownCmp at ev
      split at ev
      · rename_i a ht
        split at ev
        · rename_i hc; exact key hc _ ht (fun c' z => by cases z) ev
        · cases ev
      · rename_i c' ht
        split at ev
        · rename_i hc; exact key hc.1 _ ht (fun c'' z => by cases z; exact hc.2) ev
        · cases ev
      · cases ev
    · cases hi
  | _ => cases hi
section
variable (ha : SE M k N sc a a') (hb : SE M k N sc b b')
include ha hb
theorem se_eq : SE M k N sc (.Compare a [.Eq] [b] pos) (.cmp .Eq a' b') := by
  refine se_cmp (r := fun X x y H Q => rOwn X "__eq__" k x y H Q ∨ rEqD X.K x y H Q) ha hb (nomark _) (fun X cx => (op_own (op := .Eq) cx.room rfl).or (op_eqD cx.room.units)) fun X cx π H S x y d S' v w Q sr rx ry ev kk => ?_
  have ev : (match insOf S x with
    | some c => ownCmp M.mcall M.cls "__eq__" c x y S
    | none => (match eqD S x y with | some b => Res.ok (D.bl b) S | none => .bad)) = .ok d S' := ev
  split at ev
  · rename_i c hi
    exact .inl (own_at cx (.inl rfl) sr rx ry hi ev kk)
  · split at ev
    · rename_i t h
      cases ev
      obtain ⟨p, q, h1, h2, h3, h4, rfl⟩ := eqD_at sr h rx ry
      exact .inr ⟨p, q, h1, h2, h3, h4, kk.same sr rfl⟩
    · cases ev
theorem se_ne : SE M k N sc (.Compare a [.NotEq] [b] pos) (.cmp .NotEq a' b') := by
  refine se_cmp (r := fun X x y H Q => rOwn X "__ne__" k x y H Q ∨ rNeD X.K x y H Q) ha hb (nomark _) (fun X cx => (op_own (op := .NotEq) cx.room rfl).or (op_neD cx.room.units)) fun X cx π H S x y d S' v w Q sr rx ry ev kk => ?_
  have ev : (match insOf S x with
    | some c => ownCmp M.mcall M.cls "__ne__" c x y S
    | none => (match eqD S x y with | some b => Res.ok (D.bl (!b)) S | none => .bad)) = .ok d S' := ev
  split at ev
  · rename_i c hi
    exact .inl (own_at cx (.inr rfl) sr rx ry hi ev kk)
  · split at ev
    · rename_i t h
      cases ev
      obtain ⟨p, q, h1, h2, h3, h4, rfl⟩ := eqD_at sr h rx ry
      exact .inr ⟨p, q, h1, h2, h3, h4, kk.same sr rfl⟩
    · cases ev
theorem se_lt : SE M k N sc (.Compare a [.Lt] [b] pos) (.cmp .Lt a' b') := by
  refine se_cmp ha hb (nomark _) (fun X cx => op_lt) fun X cx π H S x y d S' v w Q sr rx ry ev kk => ?_
  cases x <;> first | (cases ev; done) | (cases y <;> first | (cases ev; done) | (cases ev; exact ⟨_, _, rx, ry, kk.same sr rfl⟩))
theorem se_le : SE M k N sc (.Compare a [.LtE] [b] pos) (.cmp .LtE a' b') := by
  refine se_cmp ha hb (nomark _) (fun X cx => op_le) fun X cx π H S x y d S' v w Q sr rx ry ev kk => ?_
  cases x <;> first | (cases ev; done) | (cases y <;> first | (cases ev; done) | (cases ev; exact ⟨_, _, rx, ry, kk.same sr rfl⟩))
theorem se_gt : SE M k N sc (.Compare a [.Gt] [b] pos) (.cmp .Gt a' b') := by
  refine se_cmp ha hb (nomark _) (fun X cx => op_gt) fun X cx π H S x y d S' v w Q sr rx ry ev kk => ?_
  cases x <;> first | (cases ev; done) | (cases y <;> first | (cases ev; done) | (cases ev; exact ⟨_, _, rx, ry, kk.same sr rfl⟩))
theorem se_ge : SE M k N sc (.Compare a [.GtE] [b] pos) (.cmp .GtE a' b') := by
  refine se_cmp ha hb (nomark _) (fun X cx => op_ge) fun X cx π H S x y d S' v w Q sr rx ry ev kk => ?_
  cases x <;> first | (cases ev; done) | (cases y <;> first | (cases ev; done) | (cases ev; exact ⟨_, _, rx, ry, kk.same sr rfl⟩))
theorem se_in (hm : behindInMarks .In b = false) : SE M k N sc (.Compare a [.In] [b] pos) (.cmp .In a' b') := by
  refine se_cmp ha hb hm (fun X cx => op_in_seq) fun X cx π H S x y d S' v w Q sr rx ry ev kk => ?_
  have ev : (match inD x y S with | some b => Res.ok (D.bl b) S | none => .bad) = .ok d S' := ev
  split at ev
  · rename_i t h
    cases ev
    obtain ⟨p, xs, h1, h2, h3, h4, rfl⟩ := inD_at sr h rx ry
    exact ⟨p, xs, h1, h2, h3, h4, kk.same sr rfl⟩
  · cases ev
theorem se_notin (hm : behindInMarks .NotIn b = false) : SE M k N sc (.Compare a [.NotIn] [b] pos) (.cmp .NotIn a' b') := by
  refine se_cmp ha hb hm (fun X cx => op_notIn_seq) fun X cx π H S x y d S' v w Q sr rx ry ev kk => ?_
  have ev : (match inD x y S with | some b => Res.ok (D.bl (!b)) S | none => .bad) = .ok d S' := ev
  split at ev
  · rename_i t h
    cases ev
    obtain ⟨p, xs, h1, h2, h3, h4, rfl⟩ := inD_at sr h rx ry
    exact ⟨p, xs, h1, h2, h3, h4, kk.same sr rfl⟩
  · cases ev
end
theorem isNon_at {L : Lx} {K : PySem.W.Frag} {mg : Str → Option Value} {π : List Addr} {H : Hp} {d : D} {v : V} (r : Rep L K mg π H d v) : decide (v = .non) = isNon d := by
  cases d with
  | non => cases (show v = .non from r); rfl
  | bl b => cases (show v = .bl b from r); rfl
  | int b => cases (show v = .int b from r); rfl
  | str b => cases (show v = .str b from r); rfl
  | ty b => cases (show v = .ty b from r); rfl
  | tup ds => obtain ⟨p, vs, e, _⟩ := rep_tup r; rw [e]; rfl
  | loc n => obtain ⟨p, e, _⟩ := rep_loc r; rw [e]; rfl
  | glb x => obtain ⟨p, e, _⟩ := (show ∃ a, v = .ref a ∧ mg x = some (.ref a) from r); rw [e]; rfl
  | lam i => obtain ⟨p, _, _, _, _, _, _, _, e, _⟩ := r; rw [e]; rfl
theorem se_isN {j : Nat} {pos' : Pos} (ha : SE M k N sc a a') : SE M k N sc (.Compare a [.Is] [.Constant .none j pos'] pos) (.isN true a') := by
  refine ⟨fun X cx => run_one (f := fun x S1 => .ok (.bl (isNon x == true)) S1) (pe_cmp (pc_isN (ha.v X cx))) (fun σ S => by rw [evE]) fun σ H Q h => h.mono fun v H1 ⟨π, S, x, d, S', sr, rx, ev, kk⟩ => ?_, fun X cx => (pt_cmp (pc_isN (ha.v X cx))).imp fun σ H Q q => ?_⟩
  · cases ev
    rw [isNon_at rx]
    refine kk.same sr ?_
    show _ = V.bl (isNon x == true)
    cases isNon x <;> rfl
  · obtain ⟨π, σD, S, t, S', er, sr, ev, kk⟩ := q
    unfold evE at ev
    obtain ⟨x, S1, e1, e2⟩ := bind_ok ev
    cases e2
    refine ⟨π, σD, S, x, _, er, sr, e1, fun v1 π1 H1 l1 r1 p1 => ⟨_, rfl, ?_⟩⟩
    rw [isNon_at p1]
    have z := kk π1 H1 l1 r1
    revert z
    cases isNon x <;> exact id
theorem se_notN {j : Nat} {pos' : Pos} (ha : SE M k N sc a a') : SE M k N sc (.Compare a [.IsNot] [.Constant .none j pos'] pos) (.isN false a') := by
  refine ⟨fun X cx => run_one (f := fun x S1 => .ok (.bl (isNon x == false)) S1) (pe_cmp (pc_notN (ha.v X cx))) (fun σ S => by rw [evE]) fun σ H Q h => h.mono fun v H1 ⟨π, S, x, d, S', sr, rx, ev, kk⟩ => ?_, fun X cx => (pt_cmp (pc_notN (ha.v X cx))).imp fun σ H Q q => ?_⟩
  · cases ev
    rw [isNon_at rx]
    refine kk.same sr ?_
    show _ = V.bl (isNon x == false)
    cases isNon x <;> rfl
  · obtain ⟨π, σD, S, t, S', er, sr, ev, kk⟩ := q
    unfold evE at ev
    obtain ⟨x, S1, e1, e2⟩ := bind_ok ev
    cases e2
    refine ⟨π, σD, S, x, _, er, sr, e1, fun v1 π1 H1 l1 r1 p1 => ⟨_, rfl, ?_⟩⟩
    rw [isNon_at p1]
    have z := kk π1 H1 l1 r1
    revert z
    cases isNon x <;> exact id
/-! ### arguments, displays -/
def NotStar (e : Expr) : Prop := ∀ (es : List Expr) (env : Env), starEach (e :: es) env = (false, eval e env) :: starEach es env
theorem sa_nil : SEs M k N sc [] .nil := ⟨fun X cx => pa_nil.imp fun σ H Q q => by
  obtain ⟨π, σD, S, d, S', er, sr, ev, kk⟩ := q
  unfold evEs at ev
  cases ev
  exact kk [] π H (Le.refl _ _) sr rfl⟩
theorem sa_cons {es : List Expr} {es' : Es} (ha : SE M k N sc a a') (hs : SEs M k N sc es es') (h : NotStar a) : SEs M k N sc (a :: es) (.cons a' es') := ⟨fun X cx => (pa_cons (ha.v X cx) (hs.a X cx) (h es X.env)).imp fun σ H Q q => by
  obtain ⟨π, σD, S, d, S', er, sr, ev, kk⟩ := q
  unfold evEs at ev
  obtain ⟨x, S1, e1, e2⟩ := bind_ok ev
  obtain ⟨xs, S2, e3, e4⟩ := bind_ok e2
  cases e4
  exact ⟨π, σD, S, x, S1, er, sr, e1, fun v π1 H1 l1 r1 p1 => ⟨π1, σD, S1, xs, _, ERel.le sr l1 er, r1, e3, fun vs π2 H2 l2 r2 p2 => kk _ π2 H2 (l1.trans l2) r2 ⟨v, vs, rfl, Rep.le r1 l2 _ _ p1, p2⟩⟩⟩⟩
/-- what follows an argument list -/
theorem run_args {X : Cx} {e : Expr} {es' : Es} {f : List D → Sto → Res D} {e' : E} {t : TE} (h : PE X e t) (he : ∀ σ S, evE M e' σ S = (evEs M es' σ S).bind f)
    (hr : ∀ σ H Q, tSs X M es' σ H (fun vs H1 => ∃ π S xs d S', SRel M.L X.K X.mg π H1 S ∧ Reps M.L X.K X.mg π H1 xs vs ∧ f xs S = .ok d S' ∧ Kont M.L X.K X.mg π H1 d S' Q) → t σ H Q) : PE X e (tS X M e') := by
  refine h.imp fun σ H Q q => hr σ H Q ?_
  obtain ⟨π, σD, S, d, S', er, sr, ev, kk⟩ := q
  rw [he] at ev
  obtain ⟨xs, S1, e1, e2⟩ := bind_ok ev
  exact ⟨π, σD, S, xs, S1, er, sr, e1, fun v1 π1 H1 l1 r1 p1 => ⟨π1, S1, xs, d, S', r1, p1, e2, fun v π' H' l r' p => kk v π' H' (l1.trans l) r' p⟩⟩
theorem tSs.mono {X : Cx} {es : Es} {σ : L2.St} {H : Hp} {Q Q' : List V → Hp → Prop} (h : tSs X M es σ H Q) (i : ∀ v H1, Q v H1 → Q' v H1) : tSs X M es σ H Q' := by
  obtain ⟨π, σD, S, d, S', er, sr, ev, kk⟩ := h
  exact ⟨π, σD, S, d, S', er, sr, ev, fun v π' H' l r p => i _ _ (kk v π' H' l r p)⟩
theorem se_tup {es : List Expr} {es' : Es} {x1 : Nat} (hs : SEs M k N sc es es') : SE M k N sc (.Tuple es x1 pos) (.tup es') := by
  refine .plain (fun X cx => run_args (f := fun vs S1 => if vs.length ≤ mostLen then .ok (.tup vs) S1 else .bad) (pe_tup (hs.a X cx)) (fun σ S => by rw [evE]) fun σ H Q h => h.mono fun vs H1 ⟨π, S, xs, d, S', sr, rs, ev, kk⟩ => ?_) fun _ _ => rfl
  split at ev
  · rename_i hz
    cases ev
    have l := rs.length
    exact ⟨most_line (by omega), fun p hp => kk.newT sr rs hp⟩
  · cases ev
theorem se_lst {es : List Expr} {es' : Es} (hs : SEs M k N sc es es') : SE M k N sc (.List es pos) (.lst es') := by
  refine .plain (fun X cx => run_args (f := fun vs S1 => if vs.length ≤ mostLen then newO (.lst vs) S1 else .bad) (pe_lst (hs.a X cx)) (fun σ S => by rw [evE]) fun σ H Q h => h.mono fun vs H1 ⟨π, S, xs, d, S', sr, rs, ev, kk⟩ => ?_) fun _ _ => rfl
  split at ev
  · rename_i hz
    cases ev
    have l := rs.length
    exact ⟨most_line (by omega), fun p hp => kk.newL sr rs hp⟩
  · cases ev
/-! ### parts -/
theorem lookup_at {L : Lx} {K : PySem.W.Frag} {mg : Str → Option Value} {π : List Addr} {H : Hp} {f : Str} {d : D} : ∀ {fs : List (Str × D)} {ws : List (Str × V)}, ws.map (·.1) = fs.map (·.1) → Reps L K mg π H (fs.map (·.2)) (ws.map (·.2)) → fs.lookup f = some d → ∃ v, ws.lookup f = some v ∧ Rep L K mg π H d v
  | [], _, _, _, h => by cases h
  | (g, x) :: fs, [], e, _, _ => by cases e
  | (g, x) :: fs, (g', y) :: ws, e, r, h => by
    simp only [List.map_cons, List.cons.injEq] at e
    obtain ⟨e1, e2⟩ := e
    subst e1
    obtain ⟨v, t, e3, h1, h2⟩ := r
    simp only [List.map_cons, List.cons.injEq] at e3
    obtain ⟨e4, e5⟩ := e3
    subst e4
    rw [List.lookup_cons] at h ⊢
    cases q : f == g' with
    | true => rw [q] at h; cases h; exact ⟨_, rfl, h1⟩
    | false =>
      rw [q] at h
      exact lookup_at e2 (by rw [e5]; exact h2) h
theorem se_fld {f : Str} (ha : SE M k N sc a a') (hb : ∀ env, attributeBase a f env (eval a env) = eval a env) : SE M k N sc (.Attribute a f pos) (.fld a' f) := by
  refine .plain (fun X cx => run_one (f := fun x S1 => fldD M.attr x f S1) (pe_fld (ha.v X cx) (hb X.env)) (fun σ S => by rw [evE]) fun σ H Q h => h.mono fun v H1 ⟨π, S, x, d, S', sr, rx, ev, kk⟩ => ?_) fun _ _ => rfl
  cases x with
  | loc n =>
    have ev : (match S[n]? with
      | some (.ins c fs) => if M.attr c f = true then (match fs.lookup f with | some v => .ok v S | none => .bad) else .bad
      | _ => .bad) = Res.ok d S' := ev
    split at ev
    · rename_i c fs hn
      split at ev
      · rename_i hat
        split at ev
        · rename_i w hl
          cases ev
          obtain ⟨p, e, hp⟩ := rep_loc rx
          obtain ⟨CA, dx, ws, hc, h1, h2, h3⟩ := sr.at_ n _ p hn hp
          obtain ⟨y, hy, ry⟩ := lookup_at h2 h3 hl
          obtain ⟨c1, c2⟩ := cx.fct.at_ c f hat CA hc
          exact ⟨p, CA, dx, ws, y, e, h1, c1, c2, hy, kk.same sr ry⟩
        · cases ev
      · cases ev
    · cases ev
  | _ => cases ev
theorem _root_.L2.PE.or {X : Cx} {e : Expr} {t u : TE} (h : PE X e t) (h' : PE X e u) : PE X e (fun σ H Q => t σ H Q ∨ u σ H Q) := ⟨fun pins s σ H Q I q => q.elim (h.run pins s σ H Q I) (h'.run pins s σ H Q I)⟩
theorem atI_at {L : Lx} {K : PySem.W.Frag} {mg : Str → Option Value} {π : List Addr} {H : Hp} {ds : List D} {vs : List V} {i : Int} {d : D} (r : Reps L K mg π H ds vs) (h : atI ds i = some d) : ∃ v, atI vs i = some v ∧ Rep L K mg π H d v := by
  unfold atI at h ⊢
  rw [← r.length]
  cases e : ixN ds.length i with
  | none => rw [e] at h; cases h
  | some j =>
    rw [e] at h
    exact r.get h
theorem valD_at {L : Lx} {K : PySem.W.Frag} {mg : Str → Option Value} {π : List Addr} {H : Hp} {q : Key} {d : D} : ∀ {fs : List (Key × D)} {ws : List (Key × V)}, ws.map (·.1) = fs.map (·.1) → Reps L K mg π H (fs.map (·.2)) (ws.map (·.2)) → valD fs q = some d → ∃ v, valV ws q = some v ∧ Rep L K mg π H d v
  | [], _, _, _, h => by cases h
  | (g, x) :: fs, [], e, _, _ => by cases e
  | (g, x) :: fs, (g', y) :: ws, e, r, h => by
    simp only [List.map_cons, List.cons.injEq] at e
    obtain ⟨e1, e2⟩ := e
    subst e1
    obtain ⟨v, t, e3, h1, h2⟩ := r
    simp only [List.map_cons, List.cons.injEq] at e3
    obtain ⟨e4, e5⟩ := e3
    subst e4
    unfold valD valV at *
    rw [List.find?_cons] at h ⊢
    by_cases e : g' = q
    · simp only [e, decide_true] at h ⊢
      cases h
      exact ⟨_, rfl, h1⟩
    · simp only [e, decide_false] at h ⊢
      exact valD_at e2 (by rw [e5]; exact h2) h
theorem keyOf_at {L : Lx} {K : PySem.W.Frag} {mg : Str → Option Value} {π : List Addr} {H : Hp} {d : D} {v : V} {q : Key} (h : keyOf d = some q) (r : Rep L K mg π H d v) : v = kV q := by
  cases d with
  | int i => cases h; exact r
  | str x => cases h; exact r
  | _ => cases h
theorem hu1 {X : Cx} (cx : CxOk M k N sc X) : X.A.units + 1 < cLine := by have := cx.room.units; omega
theorem se_idx (ha : SE M k N sc a a') (hb : SE M k N sc b b') (hs : PlainIx b) (hn : NoSl b) : SE M k N sc (.Subscript a b pos) (.idx a' b') := by
  refine .plain (fun X cx => ((pe_ix (ix_list.or ix_tup) (ha.v X cx) (hb.v X cx) hs).or (pe_dget (hu1 cx) (ha.v X cx) (hb.v X cx) hn)).imp fun σ H Q q => ?_) fun _ _ => rfl
  obtain ⟨π, σD, S, d, S', er, sr, ev, kk⟩ := q
  unfold evE at ev
  obtain ⟨x, S1, e1, e2⟩ := bind_ok ev
  obtain ⟨y, S2, e3, e4⟩ := bind_ok e2
  cases x with
  | tup ds =>
    cases y with
    | int i =>
      have e4 : (match atI ds i with | some v => Res.ok v S2 | none => .bad) = .ok d S' := e4
      split at e4
      · rename_i w hw
        cases e4
        refine .inl ⟨π, σD, S, _, S1, er, sr, e1, fun v1 π1 H1 l1 r1 p1 => ⟨π1, σD, S1, _, _, ERel.le sr l1 er, r1, e3, fun v2 π2 H2 l2 r2 p2 => .inr ?_⟩⟩
        obtain ⟨p, vs, ep, hp, hr⟩ := rep_tup (Rep.le r1 l2 _ _ p1)
        obtain ⟨v, hv, rv⟩ := atI_at hr hw
        exact ⟨p, vs, i, v, ep, p2, hp, hv, kk v π2 H2 (l1.trans l2) r2 rv⟩
      · cases e4
    | _ => cases e4
  | loc n =>
    unfold idxD at e4
    dsimp only at e4
    split at e4
    · rename_i ds hn2
      cases y with
      | int i =>
        have e4 : (match atI ds i with | some v => Res.ok v S2 | none => .bad) = .ok d S' := e4
        split at e4
        · rename_i w hw
          cases e4
          refine .inl ⟨π, σD, S, _, S1, er, sr, e1, fun v1 π1 H1 l1 r1 p1 => ⟨π1, σD, S1, _, _, ERel.le sr l1 er, r1, e3, fun v2 π2 H2 l2 r2 p2 => .inl ?_⟩⟩
          obtain ⟨p, vs, ep, _, hp, hr⟩ := lst_at r2 hn2 (Rep.le r1 l2 _ _ p1)
          obtain ⟨v, hv, rv⟩ := atI_at hr hw
          exact ⟨p, vs, i, v, ep, p2, .inl (.inl hp), hv, kk v π2 H2 (l1.trans l2) r2 rv⟩
        · cases e4
      | _ => cases e4
    · rename_i kvs hn2
      split at e4
      · rename_i q hq
        split at e4
        · rename_i w hw
          cases e4
          refine .inr ⟨π, σD, S, _, S1, er, sr, e1, fun v1 π1 H1 l1 r1 p1 => ⟨π1, σD, S1, _, _, ERel.le sr l1 er, r1, e3, fun v2 π2 H2 l2 r2 p2 => ?_⟩⟩
          obtain ⟨p, ep, hp⟩ := rep_loc (Rep.le r1 l2 _ _ p1)
          obtain ⟨ws, h1, h2, h3⟩ := r2.at_ n _ p hn2 hp
          obtain ⟨v, hv, rv⟩ := valD_at h2 h3 hw
          refine ⟨p, v, ep, ?_, kk v π2 H2 (l1.trans l2) r2 rv⟩
          have g := DGet.k (k := q) h1
          rw [hv] at g
          rw [keyOf_at hq p2]
          exact g
        · cases e4
      · cases e4
    · cases e4
  | _ => cases e4
end
end PV

/-! PV6: calls of the built-in. -/
namespace PV
open PySem PySem.Spec PyProof.Rows L2
section
variable {M : Sem} {k : Nat} {N : List Str} {sc : SC} {a b c : Expr} {a' b' c' : E} {pos p0 : Pos} {es : List Expr} {es' : Es} {x : Str}
def PlainArgs (es : List Expr) : Prop := ∀ pos env, (backTo pos (starEach es env)).any (·.1) = false
/-- what a built-in's rule must give -/
abbrev PrimR (M : Sem) (k : Nat) (N : List Str) (sc : SC) (p : Prim) (r : Cx → List V → Hp → VK → Prop) : Prop := ∀ X, CxOk M k N sc X → ∀ π H S vs xs d S' Q, SRel M.L X.K X.mg π H S → Reps M.L X.K X.mg π H xs vs → primD M.cls M.gc M.rp p xs S = .ok d S' → Kont M.L X.K X.mg π H d S' Q → r X vs H Q
theorem se_callB {id : String} {r : Cx → List V → Hp → VK → Prop} {p : Prim} (hs : SEs M k N sc (a :: es) es') (hg : sc.names.lookup x = some .globalImplicit) (hb : blts.contains x = true) (hv : bootBuiltins x = some (.builtin id))
    (hn : x ≠ "__name__") (hdb : (x == ("__debug__" : Str)) = false) (hst : NotStar a) (hpl : PlainArgs es) (hc : ∀ X, CxOk M k N sc X → CallR X (.builtin id) (r X)) (hr : PrimR M k N sc p r) : SE M k N sc (.Call (.Name x p0) (a :: es) [] pos) (.prim p es') :=
  .plain (fun X cx => run_args (f := fun vs S1 => primD M.cls M.gc M.rp p vs S1) (pe_callB (hc X cx) (cx.gl hg) (cx.fct.nb x hb) hv (hs.a X cx) hn hdb (hst es X.env) (hpl pos X.env)) (fun σ S => by rw [evE]) fun σ H Q h => h.mono fun vs H1 ⟨π, S, xs, d, S', sr, rs, ev, kk⟩ => hr X cx π H1 S vs xs d S' Q sr rs ev kk) fun _ _ => rfl
theorem se_callTy {T : String} {r : Cx → List V → Hp → VK → Prop} {p : Prim} (hs : SEs M k N sc (a :: es) es') (hg : sc.names.lookup x = some .globalImplicit) (hb : blts.contains x = true) (hv : bootBuiltins x = some (.type T))
    (hn : x ≠ "__name__") (hdb : (x == ("__debug__" : Str)) = false) (hst : NotStar a) (hpl : PlainArgs es) (hc : ∀ X, CxOk M k N sc X → CallR X (.type T) (r X)) (hr : PrimR M k N sc p r) : SE M k N sc (.Call (.Name x p0) (a :: es) [] pos) (.prim p es') :=
  .plain (fun X cx => run_args (f := fun vs S1 => primD M.cls M.gc M.rp p vs S1) (pe_callTy (hc X cx) (cx.gl hg) (cx.fct.nb x hb) hv (hs.a X cx) hn hdb (hst es X.env) (hpl pos X.env)) (fun σ S => by rw [evE]) fun σ H Q h => h.mono fun vs H1 ⟨π, S, xs, d, S', sr, rs, ev, kk⟩ => hr X cx π H1 S vs xs d S' Q sr rs ev kk) fun _ _ => rfl
theorem se_gcd (hs : SEs M k N sc (a :: es) es') (hg : sc.names.lookup ("gcd" : Str) = some .globalImplicit) (hgc : M.gc = true) (hst : NotStar a) (hpl : PlainArgs es) : SE M k N sc (.Call (.Name "gcd" p0) (a :: es) [] pos) (.prim .gcd es') := by
  refine .plain (fun X cx => run_args (f := fun vs S1 => primD M.cls M.gc M.rp .gcd vs S1) (pe_callBfun cr_gcd (cx.gl hg) (cx.fct.gcd hgc) (hs.a X cx) (by decide) (hst es X.env) (hpl pos X.env)) (fun σ S => by rw [evE]) fun σ H Q h => h.mono fun vs H1 ⟨π, S, xs, d, S', sr, rs, ev, kk⟩ => ?_) fun _ _ => rfl
  have ev : gcdP M.gc xs S = .ok d S' := ev
  unfold gcdP at ev
  split at ev
  · rw [if_pos hgc] at ev
    cases ev
    obtain ⟨v, t, rfl, r1, v2, t2, rfl, r2, r3⟩ := rs
    obtain rfl := r1
    obtain rfl := r2
    obtain rfl := r3
    exact ⟨_, _, rfl, kk.same sr rfl⟩
  · cases ev

theorem reps_one {L : Lx} {K : PySem.W.Frag} {mg : Str → Option Value} {π : List Addr} {H : Hp} {d : D} {vs : List V} (h : Reps L K mg π H [d] vs) : ∃ v, vs = [v] ∧ Rep L K mg π H d v := by
  obtain ⟨v, t, e, h1, h2⟩ := h
  have e2 : t = [] := h2
  exact ⟨v, by rw [e, e2], h1⟩
theorem reps_two {L : Lx} {K : PySem.W.Frag} {mg : Str → Option Value} {π : List Addr} {H : Hp} {d d' : D} {vs : List V} (h : Reps L K mg π H [d, d'] vs) : ∃ v w, vs = [v, w] ∧ Rep L K mg π H d v ∧ Rep L K mg π H d' w := by
  obtain ⟨v, t, e, h1, h2⟩ := h
  obtain ⟨w, e2, h3⟩ := reps_one h2
  exact ⟨v, w, by rw [e, e2], h1, h3⟩
theorem seq_len {K : PySem.W.Frag} {H : Hp} {a : Addr} {vs : List V} (h : SqL K H a vs ∨ SqT K H a vs) : LenV K (.ref a) H vs.length := h.elim (fun h => .inl ⟨vs, h, rfl⟩) fun h => .inr ⟨vs, h, rfl⟩
theorem pr_len : PrimR M k N sc .len fun X xs H Q => ∃ x n, xs = [x] ∧ LenV X.K x H n ∧ Q (.int n) H := by
  intro X cx π H S vs xs d S' Q sr rs ev kk
  have ev : lenP xs S = .ok d S' := ev
  unfold lenP at ev
  split at ev
  · split at ev
    · rename_i ds h
      cases ev
      obtain ⟨v, rfl, r1⟩ := reps_one rs
      obtain ⟨p, us, e, q, hs⟩ := seqOf_at sr h r1
      exact ⟨v, us.length, rfl, e ▸ seq_len q, by rw [← hs.length]; exact kk.same sr rfl⟩
    · cases ev
  · cases ev
theorem pr_tuple : PrimR M k N sc .tuple fun X xs H Q => ∃ p ys, xs = [.ref p] ∧ ((SqL X.K H p ys ∧ ∀ l, H l = none → Q (.ref l) (upd H l (.tup ys))) ∨ (SqT X.K H p ys ∧ Q (.ref p) H)) := by
  intro X cx π H S vs xs d S' Q sr rs ev kk
  have ev : tupleP xs S = .ok d S' := ev
  unfold tupleP at ev
  split at ev
  · split at ev
    · rename_i ds h
      cases ev
      obtain ⟨v, rfl, r1⟩ := reps_one rs
      obtain ⟨p, us, rfl, q, hs⟩ := seqOf_at sr h r1
      rcases q with q | q
      · exact ⟨p, us, rfl, .inl ⟨q, fun l hl => kk.newT sr hs hl⟩⟩
      · exact ⟨p, us, rfl, .inr ⟨q, kk.same sr ⟨p, us, rfl, q, hs⟩⟩⟩
    · cases ev
  · cases ev
theorem pr_list : PrimR M k N sc .list fun X xs H Q => ∃ p ys, xs = [.ref p] ∧ (SqL X.K H p ys ∨ SqT X.K H p ys) ∧ ∀ l, H l = none → Q (.ref l) (upd H l (.lst ys)) := by
  intro X cx π H S vs xs d S' Q sr rs ev kk
  have ev : listP xs S = .ok d S' := ev
  unfold listP at ev
  split at ev
  · split at ev
    · rename_i ds h
      cases ev
      obtain ⟨v, rfl, r1⟩ := reps_one rs
      obtain ⟨p, us, rfl, q, hs⟩ := seqOf_at sr h r1
      exact ⟨p, us, rfl, q, fun l hl => kk.newL sr hs hl⟩
    · cases ev
  · cases ev
theorem pr_abs : PrimR M k N sc .abs fun X xs H Q => ∃ i, xs = [.int i] ∧ Q (.int (if i < 0 then -i else i)) H := by
  intro X cx π H S vs xs d S' Q sr rs ev kk
  have ev : absP xs S = .ok d S' := ev
  unfold absP at ev
  split at ev
  · cases ev
    obtain ⟨v, rfl, r1⟩ := reps_one rs
    obtain rfl := r1
    exact ⟨_, rfl, kk.same sr rfl⟩
  · cases ev
theorem pr_max : PrimR M k N sc .max2 fun X xs H Q => ∃ i j, xs = [.int i, .int j] ∧ Q (.int (if j > i then j else i)) H := by
  intro X cx π H S vs xs d S' Q sr rs ev kk
  have ev : maxP xs S = .ok d S' := ev
  unfold maxP at ev
  split at ev
  · cases ev
    obtain ⟨v, w, rfl, r1, r2⟩ := reps_two rs
    obtain rfl := r1
    obtain rfl := r2
    exact ⟨_, _, rfl, kk.same sr rfl⟩
  · cases ev
theorem pr_int : PrimR M k N sc .int fun X xs H Q => (∃ i, xs = [.int i] ∧ Q (.int i) H) ∨ ∃ k, xs = [.bl k] ∧ Q (.int (if k then 1 else 0)) H := by
  intro X cx π H S vs xs d S' Q sr rs ev kk
  have ev : intP xs S = .ok d S' := ev
  unfold intP at ev
  split at ev
  · cases ev
    obtain ⟨v, rfl, r1⟩ := reps_one rs
    obtain rfl := r1
    exact .inl ⟨_, rfl, kk.same sr rfl⟩
  · cases ev
    obtain ⟨v, rfl, r1⟩ := reps_one rs
    obtain rfl := r1
    exact .inr ⟨_, rfl, kk.same sr rfl⟩
  · cases ev
theorem pr_bool : PrimR M k N sc .bool fun X xs H Q => (∃ i, xs = [.int i] ∧ Q (.bl (i != 0)) H) ∨ ∃ k, xs = [.bl k] ∧ Q (.bl k) H := by
  intro X cx π H S vs xs d S' Q sr rs ev kk
  have ev : boolP xs S = .ok d S' := ev
  unfold boolP at ev
  split at ev
  · cases ev
    obtain ⟨v, rfl, r1⟩ := reps_one rs
    obtain rfl := r1
    exact .inl ⟨_, rfl, kk.same sr rfl⟩
  · cases ev
    obtain ⟨v, rfl, r1⟩ := reps_one rs
    obtain rfl := r1
    exact .inr ⟨_, rfl, kk.same sr rfl⟩
  · cases ev
def rReprD (K : PySem.W.Frag) : List V → Hp → VK → Prop := fun xs H Q => ∃ x d, xs = [x] ∧ Dp K H x d ∧ d.showable = true ∧ d.hasDict = false ∧ d.depth ≤ 20 ∧ d.shown.length ≤ sizeLine ∧ Q (.str d.shown) H
theorem call_reprD {X : Cx} (hg : X.A.guards = some []) (hu : X.A.units + 64 < cLine) : CallR X (.builtin "repr") (rReprD X.K) := by
  intro pins s σ H xs us Q I r h
  obtain ⟨x, d, rfl, hd, hs, hn, hdp, hz, q⟩ := h
  obtain ⟨u, rfl, ru⟩ := vals1 r
  have go : ∀ (a : Addr) (as : List Addr), u = .ref a → Reads s.heap (.ref a) d as → wpAny (model X.prog X.w) X.A (call (.builtin "repr") [u]) (EP X pins σ Q) X.xe s := fun a as e rd => by
    subst e
    exact repr_of_reads' rd hs (PyData.noDict_hsm hn) hg (by omega) (fun _ _ e => e) (fun h' t tk hk => ⟨.str d.shown, H, I.kept hk, ⟨t, rfl⟩, q⟩) hz
  cases hd with
  | non => cases ru; exact call_repr_gives rfl F.slot_NoneType_repr F.entry_NoneType_repr (F.args_NoneType_repr_1 _) gives_none_repr ⟨.str _, H, I.tok _, ⟨_, rfl⟩, q⟩ (hx := by decide)
  | bl b => cases ru; exact PySem.P.repr_of_bool ⟨.str _, H, I.tok _, ⟨_, rfl⟩, by cases b <;> exact q⟩
  | int i => obtain ⟨t, rfl⟩ := ru; exact PySem.P.repr_of_int (by simpa [PyData.showable] using hs) ⟨.str _, H, I.tok _, ⟨_, rfl⟩, q⟩
  | str y => obtain ⟨t, rfl⟩ := ru; exact PySem.P.repr_of_str ⟨.str _, H, I.tok _, ⟨_, rfl⟩, q⟩ hz
  | lst h1 h2 =>
    obtain ⟨as, rd⟩ := Dp.reads I _ _ _ (.lst h1 h2) ru
    cases ru
    exact go _ as rfl rd
  | tup h1 h2 =>
    obtain ⟨as, rd⟩ := Dp.reads I _ _ _ (.tup h1 h2) ru
    cases ru
    exact go _ as rfl rd
theorem pr_repr : PrimR M k N sc .repr fun X xs H Q => rReprD X.K xs H Q := by
  intro X cx π H S vs xs d S' Q sr rs ev kk
  have ev : reprP M.rp xs S = .ok d S' := ev
  unfold reprP at ev
  split at ev
  · split at ev
    · split at ev
      · rename_i p hp
        split at ev
        · rename_i hz
          cases ev
          obtain ⟨v, rfl, r1⟩ := reps_one rs
          exact ⟨v, p, rfl, toPy_dp sr 12 _ _ _ hp r1, hz.1, hz.2.1, hz.2.2.1, most_line hz.2.2.2, kk.same sr rfl⟩
        · cases ev
      · cases ev
    · cases ev
  · cases ev
theorem bools_at {L : Lx} {K : PySem.W.Frag} {mg : Str → Option Value} {π : List Addr} {H : Hp} : ∀ {ds : List D} {bs : List Bool} {vs : List V}, allB ds = some bs → Reps L K mg π H ds vs → vs = bs.map V.bl
  | [], bs, vs, h, r => by
    cases h
    exact r
  | d :: ds, bs, vs, h, r => by
    unfold allB at h
    split at h
    · rename_i e; cases e
    · rename_i b r' e
      cases e
      obtain ⟨v, t, rfl, r1, r2⟩ := r
      obtain rfl := r1
      cases e2 : allB ds with
      | none => rw [e2] at h; cases h
      | some cs =>
        rw [e2] at h
        cases h
        rw [bools_at e2 r2]
        rfl
    · cases h
theorem pr_all : PrimR M k N sc .all fun X xs H Q => rAll X.K xs H Q := by
  intro X cx π H S vs xs d S' Q sr rs ev kk
  have ev : allP xs S = .ok d S' := ev
  unfold allP at ev
  split at ev
  · split at ev
    · rename_i ds h
      split at ev
      · rename_i bs hb
        cases ev
        obtain ⟨v, rfl, r1⟩ := reps_one rs
        obtain ⟨p, us, n, rfl, _, _, q, hs, _⟩ := listOf_at sr h r1
        exact ⟨p, bs, rfl, bools_at hb hs ▸ q, kk.same sr rfl⟩
      · cases ev
    · cases ev
  · cases ev
theorem pr_any : PrimR M k N sc .any fun X xs H Q => rAny X.K xs H Q := by
  intro X cx π H S vs xs d S' Q sr rs ev kk
  have ev : anyP xs S = .ok d S' := ev
  unfold anyP at ev
  split at ev
  · split at ev
    · rename_i ds h
      split at ev
      · rename_i bs hb
        cases ev
        obtain ⟨v, rfl, r1⟩ := reps_one rs
        obtain ⟨p, us, n, rfl, _, _, q, hs, _⟩ := listOf_at sr h r1
        exact ⟨p, bs, rfl, bools_at hb hs ▸ q, kk.same sr rfl⟩
      · cases ev
    · cases ev
  · cases ev

/-! ### isinstance -/
/-- isinstance(x, (c, ..)), the tuple read wherever it stands -/
def rIsiA (K : PySem.W.Frag) : List V → Hp → VK → Prop := fun xs H Q => ∃ (x : V) (tp : Addr) (cs : List V) (t : Value) (us : List Value) (b : Bool), xs = [x, .ref tp] ∧ SqT K H tp cs ∧ Paired ClsV cs us ∧ TyX K H x t ∧ PySem.W.kitAny K t us = some b ∧ Q (.bl b) H
theorem call_isiA {X : Cx} : CallR X (.builtin "isinstance") (rIsiA X.K) := by
  intro pins s σ H xs us Q I r h
  obtain ⟨x, tp, cs, t, ws, b, rfl, hT, k, ty, e, q⟩ := h
  obtain ⟨u1, u2, rfl, r1, r2⟩ := vals2 r
  cases (show u2 = Value.ref tp from r2)
  obtain ⟨P, Z, p, hx⟩ := kit_of I r1 ty
  obtain ⟨its, rv, ⟨o, h1, h2, n, h3⟩, _⟩ := I.tuple hT
  have e3 := ClsV.all k rv
  subst e3
  obtain ⟨oc, od, dt, sl⟩ := o
  simp only at h2 h3
  subst h2 h3
  exact PySem.W.kia_tup Z I.kIn p h1 e hx fun tk => ⟨.bl b, H, I.tok tk, rfl, q⟩
theorem kit_all : ∀ a ∈ tyNames, ∀ b ∈ tyNames, kitB a b = some (a == b || (a == "bool" && b == "int")) := by decide +kernel
theorem isa_at {X : Cx} {π : List Addr} {H : Hp} {t : Sum String Str} {u : Value} {d : D} {v : V} {b : Bool} (cx : CxOk M k N sc X) (h : isa M.cls t d = some b) (ht : TyV X.mg t u) (hn : ∀ n, t = .inl n → n ∈ tyNames) (r : Rep M.L X.K X.mg π H d v) : ∃ w, ClsV v w ∧ PySem.W.kitOne X.K u w = some b := by
  cases d with
  | ty n =>
    obtain rfl := r
    unfold isa at h
    dsimp only at h
    split at h
    · rename_i hm
      have hm : n ∈ tyNames := by simpa using hm
      cases t with
      | inl a =>
        cases h
        obtain rfl := ht
        exact ⟨_, .ty n, kit_ty (kit_all a (hn a rfl) n hm)⟩
      | inr c =>
        dsimp only at h
        split at h
        · rename_i hc
          cases h
          obtain ⟨CA, h1, rfl⟩ := ht
          exact ⟨_, .ty n, ((cx.fct.cls c hc CA h1).2.1 n hm).1⟩
        · cases h
    · cases h
  | glb x =>
    obtain ⟨p, rfl, hp⟩ := r
    unfold isa at h
    dsimp only at h
    split at h
    · rename_i hx
      cases t with
      | inl a =>
        cases h
        obtain rfl := ht
        exact ⟨_, .own p, ((cx.fct.cls x hx p hp).2.1 a (hn a rfl)).2.1⟩
      | inr c =>
        dsimp only at h
        split at h
        · rename_i hc
          cases h
          obtain ⟨CA, h1, rfl⟩ := ht
          exact ⟨_, .own p, ((cx.fct.cls c hc CA h1).2.2 x p hx hp).1⟩
        · cases h
    · cases h
  | non => cases h
  | bl _ => cases h
  | int _ => cases h
  | str _ => cases h
  | tup _ => cases h
  | loc _ => cases h
  | lam _ => cases h
theorem isas_at {X : Cx} {π : List Addr} {H : Hp} {t : Sum String Str} {u : Value} (cx : CxOk M k N sc X) (ht : TyV X.mg t u) (hn : ∀ n, t = .inl n → n ∈ tyNames) : ∀ {ds : List D} {vs : List V} {b : Bool}, isas M.cls t ds = some b → Reps M.L X.K X.mg π H ds vs → ∃ ws, Paired ClsV vs ws ∧ PySem.W.kitAny X.K u ws = some b
  | [], vs, b, h, r => by
    obtain rfl := (show vs = [] from r)
    have e : b = false := by
      unfold isas at h
      split at h
      · cases h; rfl
      · split at h
        · cases h; rfl
        · cases h
    rw [e]
    exact ⟨[], .nil, kitAny_nil⟩
  | d :: ds, vs, b, h, r => by
    obtain ⟨v, t', rfl, r1, r2⟩ := r
    unfold isas at h
    cases e1 : isa M.cls t d with
    | none => rw [e1] at h; cases h
    | some b1 =>
      cases e2 : isas M.cls t ds with
      | none => rw [e1, e2] at h; cases h
      | some b2 =>
        rw [e1, e2] at h
        cases h
        obtain ⟨w, h1, h2⟩ := isa_at cx e1 ht hn r1
        obtain ⟨ws, h3, h4⟩ := isas_at cx ht hn e2 r2
        refine ⟨w :: ws, .cons h1 h3, kitAny_cons h2 (fun z => ?_) fun z => ?_⟩
        · rw [z, Bool.false_or]; exact h4
        · rw [z, Bool.true_or]
/-- a class that is asked about is one of the known -/
theorem isa_known {t : Sum String Str} {d : D} {b : Bool} (h : isa M.cls t d = some b) : ∀ c, t = .inr c → M.cls c = true := by
  intro c e
  subst e
  cases d with
  | ty n =>
    unfold isa at h
    dsimp only at h
    split at h
    · split at h
      · assumption
      · cases h
    · cases h
  | glb x =>
    unfold isa at h
    dsimp only at h
    split at h
    · split at h
      · assumption
      · cases h
    · cases h
  | _ => cases h
theorem isas_known {c : Str} : ∀ {ds : List D} {b : Bool}, isas M.cls (.inr c) ds = some b → M.cls c = true
  | [], b, h => by
    unfold isas at h
    dsimp only at h
    split at h
    · assumption
    · cases h
  | d :: ds, b, h => by
    unfold isas at h
    cases e1 : isa M.cls (.inr c) d with
    | none => rw [e1] at h; cases h
    | some b1 => exact isa_known e1 c rfl
theorem pr_isi : PrimR M k N sc .isi fun X xs H Q => rIsi X.K xs H Q ∨ rIsiA X.K xs H Q := by
  intro X cx π H S vs xs d S' Q sr rs ev kk
  have ev : isiP M.cls xs S = .ok d S' := ev
  unfold isiP at ev
  split at ev
  · rename_i x c
    obtain ⟨v, w, rfl, r1, r2⟩ := reps_two rs
    split at ev
    · rename_i t ht
      split at ev
      · rename_i cs
        split at ev
        · rename_i bb hb
          cases ev
          obtain ⟨p, us, rfl, q, hs⟩ := rep_tup r2
          obtain ⟨u, h1, h2, h3⟩ := tyD_at cx sr ht (fun c e => isas_known (e ▸ hb)) r1
          obtain ⟨ws, h4, h5⟩ := isas_at cx h2 h3 hb hs
          exact .inr ⟨v, p, us, u, ws, bb, rfl, q, h4, h1, h5, kk.same sr rfl⟩
        · cases ev
      · rename_i hnt
        split at ev
        · rename_i bb hb
          cases ev
          obtain ⟨u, h1, h2, h3⟩ := tyD_at cx sr ht (isa_known hb) r1
          obtain ⟨cw, h4, h5⟩ := isa_at cx hb h2 h3 r2
          exact .inl ⟨v, w, u, cw, bb, rfl, h4, h1, h5, kk.same sr rfl⟩
        · cases ev
    · cases ev
  · cases ev
end
end PV

/-! PV7: slices, dict displays, methods, calls. -/
namespace PV
open PySem PySem.Spec PyProof.Rows L2
section
variable {L : Lx} {K : PySem.W.Frag} {mg : Str → Option Value} {π π' : List Addr} {H H' : Hp} {S S' : Sto}
mutual
theorem Rep.mov (f : ∀ (n : Nat) (a : Addr), π[n]? = some a → π'[n]? = some a) (g : ∀ a xs, SqT K H a xs → SqT K H' a xs) (g2 : ∀ a φ, H a = some (.ext φ) → H' a = some (.ext φ)) : ∀ (d : D) (v : V), Rep L K mg π H d v → Rep L K mg π' H' d v
  | .non, _, h => h
  | .bl _, _, h => h
  | .int _, _, h => h
  | .str _, _, h => h
  | .tup ds, v, h => by
    obtain ⟨a, vs, e, q, hs⟩ := h
    exact ⟨a, vs, e, g _ _ q, Reps.mov f g g2 ds vs hs⟩
  | .loc n, v, h => by
    obtain ⟨a, e, q⟩ := h
    exact ⟨a, e, f _ _ q⟩
  | .glb _, _, h => h
  | .ty _, _, h => h
  | .lam i, v, h => by
    obtain ⟨a, q, p, b, sc, pm, c', ctv, e, e1, e2, e3⟩ := h
    exact ⟨a, q, p, b, sc, pm, c', ctv, e, e1, g2 _ _ e2, g2 _ _ e3⟩
theorem Reps.mov (f : ∀ (n : Nat) (a : Addr), π[n]? = some a → π'[n]? = some a) (g : ∀ a xs, SqT K H a xs → SqT K H' a xs) (g2 : ∀ a φ, H a = some (.ext φ) → H' a = some (.ext φ)) : ∀ (ds : List D) (vs : List V), Reps L K mg π H ds vs → Reps L K mg π' H' ds vs
  | [], _, h => h
  | d :: ds, vs, h => by
    obtain ⟨v, t, e, h1, h2⟩ := h
    exact ⟨v, t, e, Rep.mov f g g2 d v h1, Reps.mov f g g2 ds t h2⟩
end
theorem orel_mov (f : ∀ (n : Nat) (a : Addr), π[n]? = some a → π'[n]? = some a) (g : ∀ a xs, SqT K H a xs → SqT K H' a xs) (g2 : ∀ a φ, H a = some (.ext φ) → H' a = some (.ext φ)) {o : O} {a : Addr} (h : ORel L K mg π H o a) (e : H' a = H a) : ORel L K mg π' H' o a := by
  cases o with
  | lst ds => obtain ⟨vs, h1, h2⟩ := h; exact ⟨vs, e.trans h1, Reps.mov f g g2 _ _ h2⟩
  | frz ds => obtain ⟨ob, vs, h1, h2⟩ := h; exact ⟨ob, vs, e.trans h1, Reps.mov f g g2 _ _ h2⟩
  | dct ds => obtain ⟨ws, h1, h2, h3⟩ := h; exact ⟨ws, e.trans h1, h2, Reps.mov f g g2 _ _ h3⟩
  | ins c fs => obtain ⟨CA, dx, ws, h0, h1, h2, h3⟩ := h; exact ⟨CA, dx, ws, h0, e.trans h1, h2, Reps.mov f g g2 _ _ h3⟩
theorem app_get {p : Addr} : ∀ (n : Nat) (a : Addr), π[n]? = some a → (π ++ [p])[n]? = some a := fun n a h => by
  rw [List.getElem?_append_left (List.getElem?_eq_some_iff.mp h).1]; exact h
/-- an object of the heap comes into the store -/
theorem SRel.add (r : SRel L K mg π H S) {p : Addr} {o : O} (hp : p ∉ π) (g : ∀ a xs, SqT K H a xs → SqT K H' a xs) (g2 : ∀ a φ, H a = some (.ext φ) → H' a = some (.ext φ)) (tb : LamX.Tabs (tabs L K mg) H') (e : ∀ a ∈ π, H' a = H a) (q : ORel L K mg (π ++ [p]) H' o p) : SRel L K mg (π ++ [p]) H' (S ++ [o]) := by
  refine ⟨by simp [r.len], List.nodup_append.mpr ⟨r.nd, by simp, fun a ha b hb => ?_⟩, fun n o' a h1 h2 => ?_, tb⟩
  · have e : b = p := by simpa using hb
    rw [e]; exact fun z => hp (z ▸ ha)
  · by_cases hn : n < π.length
    · rw [List.getElem?_append_left hn] at h2
      rw [List.getElem?_append_left (by rw [← r.len]; exact hn)] at h1
      exact orel_mov app_get g g2 (r.at_ n o' a h1 h2) (e a (List.mem_of_getElem? h2))
    · have hn' : n = π.length := by
        have := (List.getElem?_eq_some_iff.mp h2).1
        simp at this; omega
      subst hn'
      rw [List.getElem?_append_right (Nat.le_refl _)] at h2
      rw [r.len, List.getElem?_append_right (Nat.le_refl _)] at h1
      simp at h1 h2
      rw [← h1, ← h2]; exact q
end
section
variable {M : Sem} {k : Nat} {N : List Str} {sc : SC} {a b c : Expr} {a' b' c' : E} {pos p0 p1 p2 p3 apos : Pos} {es : List Expr} {es' : Es} {x : Str}
/-! ### slices -/
def tO (X : Cx) (M : Sem) (o : Oe) : TO := fun σ H Q => ∃ π σD S i S', ERel M.L X.K X.mg π H σD σ ∧ SRel M.L X.K X.mg π H S ∧ evOe M o σD S = .ok i S' ∧ ∀ π' H', Le π H π' H' → SRel M.L X.K X.mg π' H' S' → Q i H'
def SO (M : Sem) (k : Nat) (N : List Str) (sc : SC) (o : Option Expr) (o' : Oe) : Prop := ∀ X, CxOk M k N sc X → PO X o (tO X M o')
theorem so_none : SO M k N sc none .none := fun X cx => ⟨fun pins s σ H Q I q => by
  obtain ⟨π, σD, S, i, S', er, sr, ev, kk⟩ := q
  unfold evOe at ev
  cases ev
  exact po_none.run pins s σ H Q I (kk π H (Le.refl _ _) sr)⟩
theorem so_some (ha : SE M k N sc a a') : SO M k N sc (some a) (.some a') := fun X cx => ⟨fun pins s σ H Q I q => by
  obtain ⟨π, σD, S, i, S', er, sr, ev, kk⟩ := q
  unfold evOe at ev
  obtain ⟨x, S1, e1, e2⟩ := bind_ok ev
  refine (po_some (ha.v X cx)).run pins s σ H Q I ⟨π, σD, S, x, S1, er, sr, e1, fun v π1 H1 l1 r1 p1 => ?_⟩
  cases x with
  | int j => cases e2; exact ⟨j, p1, kk π1 H1 l1 r1⟩
  | _ => cases e2⟩
theorem cut_at {L : Lx} {K : PySem.W.Frag} {mg : Str → Option Value} {π : List Addr} {H : Hp} {ds : List D} {vs : List V} {lo hi : Option Int} (r : Reps L K mg π H ds vs) : Reps L K mg π H (cutD ds lo hi) (cutV vs lo hi) := by
  unfold cutD cutV
  rw [r.length]
  exact (r.drop _).take _
theorem se_slc {lo hi : Option Expr} {lo' hi' : Oe} (ha : SE M k N sc a a') (hl : SO M k N sc lo lo') (hh : SO M k N sc hi hi') : SE M k N sc (.Subscript a (.Slice lo hi none p2) pos) (.slc a' lo' hi') := by
  refine .plain (fun X cx => (pe_slice (sl_tupA.or sl_list) (ha.v X cx) (hl X cx) (hh X cx)).imp fun σ H Q q => ?_) fun _ _ => rfl
  obtain ⟨π, σD, S, d, S', er, sr, ev, kk⟩ := q
  unfold evE at ev
  obtain ⟨x, S1, e1, e2⟩ := bind_ok ev
  obtain ⟨l, S2, e3, e4⟩ := bind_ok e2
  obtain ⟨h, S3, e5, e6⟩ := bind_ok e4
  refine ⟨π, σD, S, x, S1, er, sr, e1, fun v1 π1 H1 l1 r1 q1 => ⟨π1, σD, S1, l, S2, ERel.le sr l1 er, r1, e3, fun π2 H2 l2 r2 => ⟨π2, σD, S2, h, S3, ERel.le sr (l1.trans l2) er, r2, e5, fun π3 H3 l3 r3 => ?_⟩⟩⟩
  have q3 := Rep.le r1 (l2.trans l3) _ _ q1
  have k3 : Kont M.L X.K X.mg π3 H3 d S' Q := fun v π' H' l r' p => kk v π' H' (((l1.trans l2).trans l3).trans l) r' p
  cases x with
  | tup ds =>
    cases e6
    obtain ⟨p, vs, rfl, hp, hr⟩ := rep_tup q3
    refine .inl ⟨p, vs, rfl, hp, fun z => ?_, fun _ t ht => k3.newT r3 (cut_at hr) ht⟩
    refine k3.same r3 ⟨p, vs, rfl, hp, ?_⟩
    have : cutD ds l h = ds := by
      unfold cutD
      rw [hr.length, z.1, z.2, List.drop_zero, Nat.sub_zero, ← hr.length, List.take_length]
    rw [this]; exact hr
  | loc n =>
    have e6 : (match S3[n]? with
      | some (.lst ds) => newO (.lst (cutD ds l h)) S3
      | _ => .bad) = .ok d S' := e6
    split at e6
    · rename_i ds hn
      cases e6
      obtain ⟨p, vs, rfl, _, hp, hr⟩ := lst_at r3 hn q3
      exact .inr ⟨p, vs, rfl, .inl (.inl hp), fun t ht => k3.newL r3 (cut_at hr) ht⟩
    · cases e6
  | _ => cases e6
theorem se_rev {j : Nat} (ha : SE M k N sc a a') : SE M k N sc (.Subscript a (.Slice none none (some (.UnaryOp .USub (.Constant (.int 1) j p1) p2)) p3) pos) (.rev a') := by
  refine .plain (fun X cx => run_one (f := fun x S1 => revD x S1) (pe_revL (ha.v X cx)) (fun σ S => by rw [evE]) fun σ H Q h => h.mono fun v H1 ⟨π, S, x, d, S', sr, rx, ev, kk⟩ => ?_) fun _ _ => rfl
  cases x with
  | loc n =>
    have ev : (match S[n]? with
      | some (.lst ds) => newO (.lst ds.reverse) S
      | _ => .bad) = .ok d S' := ev
    split at ev
    · rename_i ds hn
      cases ev
      obtain ⟨p, vs, rfl, _, hp, hr⟩ := lst_at sr hn rx
      exact ⟨p, vs, rfl, .inl (.inl hp), fun t ht => kk.newL sr hr.reverse ht⟩
    · cases ev
  | _ => cases ev
/-! ### methods -/
theorem mth_ty {X : Cx} {π : List Addr} {H : Hp} {S : Sto} {x : D} {v : V} (sr : SRel M.L X.K X.mg π H S) (h : ∃ n ds, x = .loc n ∧ S[n]? = some (.lst ds)) (r : Rep M.L X.K X.mg π H x v) : tyV X.K "list" v H := by
  obtain ⟨n, ds, rfl, hn⟩ := h
  obtain ⟨p, vs, rfl, _, hp, hr⟩ := lst_at sr hn r
  exact .inl ⟨rfl, vs, .inl (.inl hp)⟩
theorem mthOk_lst {m : Mth} {x : D} {S : Sto} (hm : m ≠ .bitlen) (h : mthOk m x S = true) : ∃ n ds, x = .loc n ∧ S[n]? = some (.lst ds) := by
  cases m with
  | bitlen => exact (hm rfl).elim
  | append =>
    cases x with
    | loc n =>
      have h : (match S[n]? with | some (.lst _) => true | _ => false) = true := h
      split at h
      · rename_i ds e; exact ⟨n, ds, rfl, e⟩
      · cases h
    | _ => cases h
  | popAt =>
    cases x with
    | loc n =>
      have h : (match S[n]? with | some (.lst _) => true | _ => false) = true := h
      split at h
      · rename_i ds e; exact ⟨n, ds, rfl, e⟩
      · cases h
    | _ => cases h
/-- a list's method -/
theorem se_mth {m : Mth} {name : Str} {id : String} {r : V → List V → Hp → VK → Prop} (hm : m ≠ .bitlen) (slot : Slot "list" name id) (hty : typeOf (.builtin id) = pure (.type "method_descriptor")) (hr : ∀ X : Cx, MtR X id r) (ha : SE M k N sc a a') (hs : SEs M k N sc (b :: es) es')
    (hb : ∀ env, attributeBase a name env (eval a env) = eval a env)
    (hf : ∀ env, ((backTo pos (starEach (b :: es) env)).all (fun x => !x.1) && (backToKw pos (keywordEach [] env)).all (fun x => x.1.isSome)
      && decide ((b :: es).length + ([] : List Keyword).length + (if ([] : List Keyword).isEmpty then 0 else 1) < 30)) = true)
    (hl : (apos.endLine == pos.line) = true) (hst : NotStar b) (hpl : PlainArgs es)
    (hw : ∀ X : Cx, CxOk M k N sc X → ∀ π H S x vs xs d S' v Q, SRel M.L X.K X.mg π H S → Rep M.L X.K X.mg π H x v → Reps M.L X.K X.mg π H xs vs → mthD m x xs S = .ok d S' → Kont M.L X.K X.mg π H d S' Q → r v vs H Q) : SE M k N sc (.Call (.Attribute a name apos) (b :: es) [] pos) (.mth m a' es') := by
  refine .plain (fun X cx => (pe_bm F.plainAttrs_list slot hty (hr X) (ha.v X cx) (hs.a X cx) (hb X.env) (hf X.env) hl (hst es X.env) (hpl pos X.env)).imp fun σ H Q q => ?_) fun _ _ => rfl
  obtain ⟨π, σD, S, d, S', er, sr, ev, kk⟩ := q
  unfold evE at ev
  obtain ⟨x, S1, e1, e2⟩ := bind_ok ev
  split at e2
  · rename_i hok
    obtain ⟨vs, S2, e3, e4⟩ := bind_ok e2
    exact ⟨π, σD, S, x, S1, er, sr, e1, fun v1 π1 H1 l1 r1 q1 => ⟨mth_ty r1 (mthOk_lst hm hok) q1, π1, σD, S1, vs, S2, ERel.le sr l1 er, r1, e3, fun us π2 H2 l2 r2 q2 => hw X cx π2 H2 S2 x us vs d S' v1 Q r2 (Rep.le r1 l2 _ _ q1) q2 e4 fun v π' H' l r' p => kk v π' H' ((l1.trans l2).trans l) r' p⟩⟩
  · cases e2
theorem se_append (ha : SE M k N sc a a') (hs : SEs M k N sc (b :: es) es') (hb : ∀ env, attributeBase a "append" env (eval a env) = eval a env)
    (hf : ∀ env, ((backTo pos (starEach (b :: es) env)).all (fun x => !x.1) && (backToKw pos (keywordEach [] env)).all (fun x => x.1.isSome)
      && decide ((b :: es).length + ([] : List Keyword).length + (if ([] : List Keyword).isEmpty then 0 else 1) < 30)) = true)
    (hl : (apos.endLine == pos.line) = true) (hst : NotStar b) (hpl : PlainArgs es) : SE M k N sc (.Call (.Attribute a "append" apos) (b :: es) [] pos) (.mth .append a' es') := by
  refine se_mth (by decide) F.slot_list_append F.type_list_append (fun X => mt_append) ha hs hb hf hl hst hpl fun X cx π H S x vs xs d S' v Q sr rx rs ev kk => ?_
  have ev : appendM x xs S = .ok d S' := ev
  unfold appendM at ev
  split at ev
  · rename_i n w
    split at ev
    · rename_i ds hn
      split at ev
      · rename_i hz
        cases ev
        obtain ⟨u, rfl, r1⟩ := reps_one rs
        obtain ⟨p, us, rfl, hp, hh, hr⟩ := lst_at sr hn rx
        have l := hr.length
        exact ⟨p, us, u, rfl, rfl, hh, Nat.lt_of_lt_of_le (by omega : us.length < mostLen) (most_line (Nat.le_refl _)), kk.setL sr hp (hr.append (Reps.one r1)) rfl⟩
      · cases ev
    · cases ev
  · cases ev
theorem se_popAt (ha : SE M k N sc a a') (hs : SEs M k N sc (b :: es) es') (hb : ∀ env, attributeBase a "pop" env (eval a env) = eval a env)
    (hf : ∀ env, ((backTo pos (starEach (b :: es) env)).all (fun x => !x.1) && (backToKw pos (keywordEach [] env)).all (fun x => x.1.isSome)
      && decide ((b :: es).length + ([] : List Keyword).length + (if ([] : List Keyword).isEmpty then 0 else 1) < 30)) = true)
    (hl : (apos.endLine == pos.line) = true) (hst : NotStar b) (hpl : PlainArgs es) : SE M k N sc (.Call (.Attribute a "pop" apos) (b :: es) [] pos) (.mth .popAt a' es') := by
  refine se_mth (by decide) F.slot_list_pop F.type_list_pop (fun X => mt_popAt) ha hs hb hf hl hst hpl fun X cx π H S x vs xs d S' v Q sr rx rs ev kk => ?_
  have ev : popAtM x xs S = .ok d S' := ev
  unfold popAtM at ev
  split at ev
  · rename_i n i _
    split at ev
    · rename_i ds hn
      split at ev
      · rename_i hz
        split at ev
        · rename_i w hw
          cases ev
          obtain ⟨u, rfl, r1⟩ := reps_one rs
          obtain rfl := (show u = V.int i from r1)
          obtain ⟨p, us, rfl, hp, hh, hr⟩ := lst_at sr hn rx
          have l := hr.length
          obtain ⟨y, hy, ry⟩ := hr.get hw
          have hj : i.toNat < us.length := (List.getElem?_eq_some_iff.mp hy).1
          exact ⟨p, us, i, i.toNat, y, rfl, rfl, hh, by omega, by omega, seqIndex_of hz.1 (by omega), hy, kk.setL sr hp (hr.eraseIdx _) ry⟩
        · cases ev
      · cases ev
    · cases ev
  · cases ev
theorem se_bits (ha : SE M k N sc a a') (hb : ∀ env, attributeBase a "bit_length" env (eval a env) = eval a env) (hl : (apos.endLine == pos.line) = true) : SE M k N sc (.Call (.Attribute a "bit_length" apos) [] [] pos) (.mth .bitlen a' .nil) := by
  refine .plain (fun X cx => (pe_bits (ha.v X cx) (hb X.env) hl).imp fun σ H Q q => ?_) fun _ _ => rfl
  obtain ⟨π, σD, S, d, S', er, sr, ev, kk⟩ := q
  unfold evE at ev
  obtain ⟨x, S1, e1, e2⟩ := bind_ok ev
  split at e2
  · rename_i hok
    obtain ⟨vs, S2, e3, e4⟩ := bind_ok e2
    unfold evEs at e3
    cases e3
    refine ⟨π, σD, S, x, S1, er, sr, e1, fun v1 π1 H1 l1 r1 q1 => ?_⟩
    have e4 : bitlenM x [] S1 = .ok d S' := e4
    unfold bitlenM at e4
    split at e4
    · cases e4
      exact ⟨_, q1, kk _ π1 H1 l1 r1 rfl⟩
    · cases e4
  · cases e2
/-! ### calls -/
theorem se_call (hs : SEs M k N sc (a :: es) es') (hg : sc.names.lookup x = some .globalImplicit) (hdb : (x == ("__debug__" : Str)) = false) (hst : NotStar a) (hpl : PlainArgs es) : SE M k N sc (.Call (.Name x p0) (a :: es) [] pos) (.call x es') := by
  refine .plain (fun X cx => ⟨fun pins s σ H Q I q => ?_⟩) fun _ _ => rfl
  obtain ⟨π, σD, S, d, S', er, sr, ev, kk⟩ := q
  unfold evE at ev
  obtain ⟨xs, S1, e1, e2⟩ := bind_ok ev
  obtain ⟨fa, fd, ps, hm, hk, hb, F⟩ := cx.fct.fn _ _ _ _ _ e2
  refine (pe_call F cx.room (cx.gl hg) hm hk hb (dvs := []) .nil (E := E0) (fun _ _ _ _ _ _ _ h => h.elim) (hs.a X cx) hdb (hst es X.env) (hpl pos X.env)).run pins s σ H Q I ?_
  exact ⟨π, σD, S, xs, S1, er, sr, e1, fun vs π1 H1 l1 r1 q1 => ⟨π1, S1, xs, d, S', r1, by rw [List.append_nil]; exact q1, e2, fun v π' H' l r' p => kk v π' H' (l1.trans l) r' p⟩⟩
theorem se_call0 (hg : sc.names.lookup x = some .globalImplicit) (hdb : (x == ("__debug__" : Str)) = false) : SE M k N sc (.Call (.Name x p0) [] [] pos) (.call x .nil) := by
  refine .plain (fun X cx => ⟨fun pins s σ H Q I q => ?_⟩) fun _ _ => rfl
  obtain ⟨π, σD, S, d, S', er, sr, ev, kk⟩ := q
  unfold evE at ev
  obtain ⟨xs, S1, e1, e2⟩ := bind_ok ev
  unfold evEs at e1
  cases e1
  obtain ⟨fa, fd, ps, hm, hk, hb, F⟩ := cx.fct.fn _ _ _ _ _ e2
  refine (pe_call0 F cx.room (cx.gl hg) hm hk hb (dvs := []) .nil (E := E0) (fun _ _ _ _ _ _ _ h => h.elim) hdb).run pins s σ H Q I ?_
  exact ⟨π, _, [], d, S', sr, rfl, e2, kk⟩
theorem se_make (hs : SEs M k N sc (a :: es) es') (hg : sc.names.lookup x = some .globalImplicit) (hdb : (x == ("__debug__" : Str)) = false) (hst : NotStar a) (hpl : PlainArgs es) : SE M k N sc (.Call (.Name x p0) (a :: es) [] pos) (.make x es') := by
  refine .plain (fun X cx => ⟨fun pins s σ H Q I q => ?_⟩) fun _ _ => rfl
  obtain ⟨π, σD, S, d, S', er, sr, ev, kk⟩ := q
  unfold evE at ev
  obtain ⟨xs, S1, e1, e2⟩ := bind_ok ev
  obtain ⟨CA, hm, hk, F⟩ := cx.fct.new _ _ _ _ _ e2
  refine wpAny_Call_Name_kw (ld_glob I (cx.gl hg) hm ?_ hdb)
  refine PySem.W.callWith_K (h₀ := X.base) I.ok.mod.kin hk (thn ((hs.a X cx).run pos pins s σ H (fun vs H1 => ∃ π1, Le π H π1 H1 ∧ SRel M.L X.K X.mg π1 H1 S1 ∧ Reps M.L X.K X.mg π1 H1 xs vs) I ⟨π, σD, S, xs, S1, er, sr, e1, fun vs π1 H1 l1 r1 q1 => ⟨π1, l1, r1, q1⟩⟩) fun us s1 ⟨vs, H1, I1, r, π1, l1, r1, q1⟩ => ⟨I1.kIn, ?_⟩) (hst es X.env) (hpl pos X.env)
  exact F.run rfl rfl rfl rfl rfl cx.room I1 r r1 q1 e2 fun v π' H' l r' p => kk v π' H' (l1.trans l) r' p
theorem se_make0 (hg : sc.names.lookup x = some .globalImplicit) (hdb : (x == ("__debug__" : Str)) = false) : SE M k N sc (.Call (.Name x p0) [] [] pos) (.make x .nil) := by
  refine .plain (fun X cx => ⟨fun pins s σ H Q I q => ?_⟩) fun _ _ => rfl
  obtain ⟨π, σD, S, d, S', er, sr, ev, kk⟩ := q
  unfold evE at ev
  obtain ⟨xs, S1, e1, e2⟩ := bind_ok ev
  unfold evEs at e1
  cases e1
  obtain ⟨CA, hm, hk, F⟩ := cx.fct.new _ _ _ _ _ e2
  refine wpAny_Call_Name_kw (ld_glob I (cx.gl hg) hm ?_ hdb)
  exact PySem.W.callWith_K0 I.kIn hk (F.run (us := []) (vs := []) (ds := []) rfl rfl rfl rfl rfl cx.room I .nil sr rfl e2 kk)
/-! ### keywords -/
structure SKs (M : Sem) (k : Nat) (N : List Str) (sc : SC) (kws : List Keyword) (ks : List Str) (es' : Es) : Prop where
  a : ∀ X, CxOk M k N sc X → PK X kws (tSs X M es')
  nm : ∀ pos env, (backToKw pos (keywordEach kws env)).filterMap (·.1) = ks ∧ (backToKw pos (keywordEach kws env)).all (·.1.isSome) = true ∧ (backToKw pos (keywordEach kws env)).any (·.1.isNone) = false
  len : kws.length = ks.length
theorem sk_nil : SKs M k N sc [] [] .nil := ⟨fun X cx => ⟨fun pos pins s σ H Q I q => by
  obtain ⟨π, σD, S, d, S', er, sr, ev, kk⟩ := q
  unfold evEs at ev
  cases ev
  exact pk_nil.run pos pins s σ H Q I (kk [] π H (Le.refl _ _) sr rfl)⟩, fun _ _ => ⟨rfl, rfl, rfl⟩, rfl⟩
theorem sk_cons {kws : List Keyword} {ks : List Str} {es' : Es} {nm : Str} {kpos : Pos} (ha : SE M k N sc a a') (hs : SKs M k N sc kws ks es') : SKs M k N sc (⟨some nm, a, kpos⟩ :: kws) (nm :: ks) (.cons a' es') := ⟨fun X cx => ⟨fun pos pins s σ H Q I q => by
  obtain ⟨π, σD, S, d, S', er, sr, ev, kk⟩ := q
  unfold evEs at ev
  obtain ⟨x, S1, e1, e2⟩ := bind_ok ev
  obtain ⟨xs, S2, e3, e4⟩ := bind_ok e2
  cases e4
  exact (pk_cons (ha.v X cx) (hs.a X cx)).run pos pins s σ H Q I ⟨π, σD, S, x, S1, er, sr, e1, fun v π1 H1 l1 r1 p1 => ⟨π1, σD, S1, xs, _, ERel.le sr l1 er, r1, e3, fun vs π2 H2 l2 r2 p2 => kk _ π2 H2 (l1.trans l2) r2 ⟨v, vs, rfl, Rep.le r1 l2 _ _ p1, p2⟩⟩⟩⟩, fun pos env => by
  obtain ⟨h1, h2, h3⟩ := hs.nm pos env
  unfold backToKw at h1 h2 h3 ⊢
  refine ⟨?_, ?_, ?_⟩
  · rw [show keywordEach (⟨some nm, a, kpos⟩ :: kws) env = (some nm, eval a env) :: keywordEach kws env from rfl, List.map_cons, List.filterMap_cons]
    dsimp only
    rw [h1]
  · rw [show keywordEach (⟨some nm, a, kpos⟩ :: kws) env = (some nm, eval a env) :: keywordEach kws env from rfl, List.map_cons, List.all_cons, h2]
    rfl
  · rw [show keywordEach (⟨some nm, a, kpos⟩ :: kws) env = (some nm, eval a env) :: keywordEach kws env from rfl, List.map_cons, List.any_cons, h3]
    rfl, by rw [List.length_cons, List.length_cons, hs.len]⟩
/-- C(k = v, ..) -/
theorem se_makeK {kws : List Keyword} {ks : List Str} {perm : List Nat} (hs : SKs M k N sc kws ks es') (hg : sc.names.lookup x = some .globalImplicit) (hdb : (x == ("__debug__" : Str)) = false)
    (hp : M.perm x ks = some perm) : SE M k N sc (.Call (.Name x p0) [] kws pos) (.makeK x es' ks.length perm) := by
  refine .plain (fun X cx => ⟨fun pins s σ H Q I q => ?_⟩) fun _ _ => rfl
  obtain ⟨π, σD, S, d, S', er, sr, ev, kk⟩ := q
  unfold evE at ev
  obtain ⟨xs, S1, e1, e2⟩ := bind_ok ev
  split at e2
  · rename_i hl
    obtain ⟨CA, hm, hk, F⟩ := cx.fct.newK _ _ _ _ _ _ _ hp e2
    obtain ⟨n1, n2, n3⟩ := hs.nm pos X.env
    refine wpAny_Call_Name_kw (ld_glob I (cx.gl hg) hm ?_ hdb)
    refine PySem.W.callWith_KW0 (h₀ := X.base) I.ok.mod.kin hk n2 ?_ (by rw [n3]; rfl)
    refine thn ((hs.a X cx).run pos pins s σ H (fun vs H1 => ∃ π1, Le π H π1 H1 ∧ SRel M.L X.K X.mg π1 H1 S1 ∧ Reps M.L X.K X.mg π1 H1 xs vs) I ⟨π, σD, S, xs, S1, er, sr, e1, fun vs π1 H1 l1 r1 q1 => ⟨π1, l1, r1, q1⟩⟩) fun us s1 ⟨vs, H1, I1, r, π1, l1, r1, q1⟩ => ⟨I1.kIn, ?_⟩
    rw [n1]
    exact F.run rfl rfl rfl rfl rfl cx.room I1 r r1 q1 hl e2 fun v π' H' l r' p => kk v π' H' (l1.trans l) r' p
  · cases e2
/-- a built-in type's name as a value -/
theorem se_bty {n : String} (hg : sc.names.lookup x = some .globalImplicit) (hb : blts.contains x = true) (hv : bootBuiltins x = some (.type n)) (hn : x ≠ "__name__") (hdb : (x == ("__debug__" : Str)) = false) : SE M k N sc (.Name x pos) (.lit (.ty n)) :=
  .plain (fun X cx => pe_lit (pe_bltn (cx.gl hg) (cx.fct.nb x hb) hv (show RelV (.ty n) (.type n) from rfl) hn hdb) fun _ _ => rfl) fun _ _ => rfl
end
end PV

/-! PV8: calls through a variable, lambdas, dict displays. -/
namespace PV
open PySem PySem.Spec PyProof.Rows L2
section
variable {M : Sem} {k : Nat} {N : List Str} {sc : SC} {a b c : Expr} {a' b' c' : E} {pos p0 p1 p2 p3 apos : Pos} {es : List Expr} {es' : Es} {x : Str}
theorem lam_at {X : Cx} {pins : List (Addr × Obj)} {σ : L2.St} {H : Hp} {s : Shared} {π : List Addr} {i : Nat} {v : V} (I : Inv X pins σ H s) (h : Rep M.L X.K X.mg π H (.lam i) v) : ∃ a q p b sc pm c' ctv, v = .ref a ∧ M.L.src[i]? = some (q, p, b, sc) ∧ s.heap.get? a = some (PySem.W.kla_obj "<lambda>" q p b sc [] pm c' ctv) ∧ s.heap.CodeRec (.ref c') q ∧ H a = some (LamO a q p b sc pm c' ctv) := by
  obtain ⟨a, q, p, b, sc, pm, c', ctv, e, e1, e2, e3⟩ := h
  have h1 := I.hok a _ e2
  obtain ⟨⟨oc, vs, t, h2, h3, h4⟩, _, _⟩ := I.hok c' _ e3
  exact ⟨a, q, p, b, sc, pm, c', ctv, e, e1, h1.1, ⟨c', oc, vs, t, rfl, h2, h3, h4⟩, e2⟩
theorem se_callv {i : Nat} (hs : SEs M k N sc (a :: es) es') (hN : N[i]? = some x) (hv : Vis sc.toScope x) (hdb : (x == ("__debug__" : Str)) = false) (hcd : (x == ("__classdict__" : Str)) = false) (hst : NotStar a) (hpl : PlainArgs es) : SE M k N sc (.Call (.Name x p0) (a :: es) [] pos) (.callv i es') := by
  refine .plain (fun X cx => ⟨fun pins s σ H Q I q => ?_⟩) fun _ _ => rfl
  obtain ⟨π, σD, S, d, S', er, sr, ev, kk⟩ := q
  unfold evE at ev
  have hN' : X.N[i]? = some x := by rw [cx.n]; exact hN
  have hv' : Vis X.env.scope x := by rw [cx.sc]; exact hv
  split at ev
  · rename_i f hσ
    obtain ⟨xs, S1, e1, e2⟩ := bind_ok ev
    obtain ⟨w, h1, p, rfl, hp⟩ := er.at_ i _ hσ
    obtain ⟨fa, fd, ps, hm, hk, hb, F⟩ := cx.fct.fn _ _ _ _ _ e2
    rw [hp] at hm
    cases hm
    refine (pe_callL (i := i) F cx.room hN' hv' hk hb (dvs := []) .nil (E := E0) (fun _ _ _ _ _ _ _ h => h.elim) (hs.a X cx) hdb hcd (hst es X.env) (hpl pos X.env)).run pins s σ H Q I ⟨h1, ?_⟩
    exact ⟨π, σD, S, xs, S1, er, sr, e1, fun vs π1 H1 l1 r1 q1 => ⟨π1, S1, xs, d, S', r1, by rw [List.append_nil]; exact q1, e2, fun v π' H' l r' p => kk v π' H' (l1.trans l) r' p⟩⟩
  · rename_i j hσ
    obtain ⟨xs, S1, e1, e2⟩ := bind_ok ev
    obtain ⟨w, h1, h2⟩ := er.at_ i _ hσ
    have F := cx.fct.lam _ _ _ _ _ e2
    refine wpAny_Call_Name_kw (thn ((pe_var (pos := p0) hN' hv' hdb hcd).run pins s σ H (fun v H1 => v = w ∧ H1 = H) I ⟨w, h1, rfl, rfl⟩) fun u s1 ⟨v, H1, I1, r1, q1⟩ => ?_)
    obtain ⟨rfl, rfl⟩ := q1
    obtain ⟨fa, q, p, b, sc', pm, c', ctv, rfl, g1, g2, g3, g4⟩ := lam_at I1 h2
    cases r1
    refine PySem.W.callWith_F ⟨_, _, _, _, g2⟩ (thn ((hs.a X cx).run pos pins s1 σ _ (fun vs H1 => ∃ π1, Le π _ π1 H1 ∧ SRel M.L X.K X.mg π1 H1 S1 ∧ Reps M.L X.K X.mg π1 H1 xs vs) I1 ⟨π, σD, S, xs, S1, er, sr, e1, fun vs π1 H1 l1 r1 q1 => ⟨π1, l1, r1, q1⟩⟩) fun us s2 ⟨vs, H2, I2, r, π1, l1, r1, q1⟩ => ?_) (hst es X.env) (hpl pos X.env)
    have h3 := Rep.le sr l1 _ _ h2
    obtain ⟨_, _, _, _, _, _, _, _, e, _, g5, _⟩ := lam_at I2 h3
    cases e
    exact ⟨⟨_, _, _, _, g5⟩, F.run rfl rfl rfl rfl rfl cx.room I2 h3 r r1 q1 e2 fun v π' H' l r' p => kk v π' H' (l1.trans l) r' p⟩
  · cases ev
/-! ### a lambda is made -/
theorem cloFrom_nil {cells : List (Str × Addr)} : ∀ {names : List (Str × NameKind)}, (∀ y ∈ names, y.2 ≠ .free) → cloFrom cells names [] = [] := by
  intro names h
  refine List.eq_nil_iff_forall_not_mem.mpr fun p hp => ?_
  obtain ⟨n, c⟩ := p
  rcases cloFrom_mem hp with z | ⟨z, _⟩
  · cases z
  · exact h _ z rfl
theorem lam_new {X : Cx} {pins : List (Addr × Obj)} {σ : L2.St} {H : Hp} {s : Shared} {c P : Addr} {q : Str} {params : Arguments} {body : Expr} {scope : Scope} {E : Value → Shared → Prop} {Q : Value → Shared → Prop} (I : Inv X pins σ H s) (TB : LamX.TabB X.base X.mg c P) (hcode : X.env.code = .ref c)
    (hq : X.env.qual ++ "<lambda>" = q) (hT : LamX.TabS H P q) (hdef : defaultsOf params X.env = ([], [])) (hfree : ∀ y ∈ scope.names, y.2 ≠ .free)
    (h : ∀ (f c' : Addr) (pm ctv : Value) (H1 : Hp) (s' : Shared), Inv X pins σ H1 s' → H1 f = some (LamO f q params body scope pm c' ctv) → H1 c' = some (LamX.CodeO c' q) → LamX.TabS H1 P q → (∀ b o, H b = some o → b ≠ P → H1 b = some o) → H1 P ≠ none → Q (.ref f) s') :
    wpAny (model X.prog X.w) X.A (eval (.Lambda params body scope pos) X.env) Q E s := by
  obtain ⟨ps, hP, ht, ha⟩ := hT
  refine PySem.W.kla_eval hdef ?_
  rw [hq]
  have bP : s.heap.BuiltinsAt X.mg P := TB.bm.keeps I.bk
  have hP' : s.heap.get? P = some { cls := .none, data := .fields ps } := I.hok P _ hP
  have hcl : closureFor scope X.env = pure [] := by
    rw [closure_ok (fun y hy e => absurd e (hfree y hy)), cloFrom_nil hfree]
  have newL : ∀ {pm : Value} {c' : Addr} {ctv : Value} {H2 : Hp} {h' : Heap}, ObjOk X.prog X.w (upd H2 h'.objs.size (LamO h'.objs.size q params body scope pm c' ctv)) (h'.push (PySem.W.kla_obj "<lambda>" q params body scope [] pm c' ctv)) h'.objs.size (LamO h'.objs.size q params body scope pm c' ctv) := fun {pm c' ctv H2 h'} =>
    ⟨Heap.get?_push_size _ rfl, ⟨_, Heap.get?_push_size _ rfl⟩, fun h1 h2 a st => st _ a⟩
  cases hc : codeAmong pos ps.toList with
  | none =>
    refine PySem.W.kla_makeFunction (mg := X.mg) (c := c) (P := P) (ps := ps) hcl I.ok.glob (I.mod.glob.keeps I.bk) hcode (TB.code.keeps I.bk) hP' ht hc TB.gP bP fun c' ctv h' tk hx hge hlt hrec htb => ?_
    obtain ⟨c2, oc, vs, t, e2, hoc, hd, hv⟩ := hrec
    cases e2
    have nC : H c' = none := I.hok.fresh hge
    have I1 := LamX.inv_table (t' := tk) (more := #[rawInt pos.line, rawInt pos.col, .ref c']) (h' := h') I hP hx htb hge ⟨oc, vs, t, hoc, hd, hv⟩
    have hsz : s.heap.objs.size ≤ h'.objs.size := Nat.le_trans hge (Nat.le_of_lt hlt)
    have I2 := I1.laid (a := h'.objs.size) (o := LamO h'.objs.size q params body scope ((X.mg "__name__").getD .none) c' ctv) (h' := h'.push (PySem.W.kla_obj "<lambda>" q params body scope [] ((X.mg "__name__").getD .none) c' ctv)) (t' := tk) (fun _ _ e => Heap.get?_push_of_some _ e) (Nat.le_refl _) newL
    have n1 : c' ≠ h'.objs.size := Nat.ne_of_lt hlt
    have n2 : P ≠ h'.objs.size := Nat.ne_of_lt (Nat.lt_of_lt_of_le (Heap.lt_size hP') hsz)
    have n3 : P ≠ c' := ne_of_none hP nC
    have up : ∀ b o, H b = some o → b ≠ P → upd (upd (upd H P (.tbl (ps ++ #[rawInt pos.line, rawInt pos.col, .ref c']))) c' (LamX.CodeO c' q)) h'.objs.size (LamO h'.objs.size q params body scope ((X.mg "__name__").getD .none) c' ctv) b = some o := fun b o e n => by
      rw [upd_ne (ne_of_none e (I.hok.fresh hsz)), upd_ne (ne_of_none e nC), upd_ne n]
      exact e
    have atC : upd (upd (upd H P (.tbl (ps ++ #[rawInt pos.line, rawInt pos.col, .ref c']))) c' (LamX.CodeO c' q)) h'.objs.size (LamO h'.objs.size q params body scope ((X.mg "__name__").getD .none) c' ctv) c' = some (LamX.CodeO c' q) := by rw [upd_ne n1, upd_same]
    have atP : upd (upd (upd H P (.tbl (ps ++ #[rawInt pos.line, rawInt pos.col, .ref c']))) c' (LamX.CodeO c' q)) h'.objs.size (LamO h'.objs.size q params body scope ((X.mg "__name__").getD .none) c' ctv) P = some (.tbl (ps ++ #[rawInt pos.line, rawInt pos.col, .ref c'])) := by rw [upd_ne n2, upd_ne n3, upd_same]
    have eL : (ps ++ #[rawInt pos.line, rawInt pos.col, .ref c']).toList = ps.toList ++ [rawInt pos.line, rawInt pos.col, .ref c'] := by simp
    refine h h'.objs.size c' _ ctv _ _ I2 upd_same atC ⟨_, atP, by rw [eL]; exact PySem.TriplesOk_snoc _ _ _ _ ht, fun p' cv hcv => ?_⟩ up (by rw [atP]; exact fun z => nomatch z)
    rw [eL] at hcv
    rcases LamX.among_app _ ht hcv with z | z
    · obtain ⟨c0, e1, e2⟩ := ha p' cv z
      exact ⟨c0, e1, up _ _ e2 (fun z => by rw [z, hP] at e2; cases e2)⟩
    · exact ⟨c', z, atC⟩
  | some cv =>
    obtain ⟨c', e, hco⟩ := ha pos cv hc
    subst e
    refine PySem.W.kla_makeFunctionHit (mg := X.mg) (c := c) (P := P) (ps := ps) hcl I.ok.glob (I.mod.glob.keeps I.bk) hcode (TB.code.keeps I.bk) hP' ht hc bP fun ctv h' tk hx hsz => ?_
    have I1 : Inv X pins σ H { s with heap := h', toks := tk } := I.kept hx
    have I2 := I1.laid (a := h'.objs.size) (o := LamO h'.objs.size q params body scope ((X.mg "__name__").getD .none) c' ctv) (h' := h'.push (PySem.W.kla_obj "<lambda>" q params body scope [] ((X.mg "__name__").getD .none) c' ctv)) (t' := tk) (fun _ _ e => Heap.get?_push_of_some _ e) (Nat.le_refl _) newL
    have up : ∀ b o, H b = some o → upd H h'.objs.size (LamO h'.objs.size q params body scope ((X.mg "__name__").getD .none) c' ctv) b = some o := fun b o e => by
      rw [upd_ne (ne_of_none e (I.hok.fresh hsz))]
      exact e
    exact h h'.objs.size c' _ ctv _ _ I2 upd_same (up _ _ hco) ⟨ps, up _ _ hP, ht, fun p' cv hcv => let ⟨c0, e1, e2⟩ := ha p' cv hcv; ⟨c0, e1, up _ _ e2⟩⟩ (fun b o e _ => up b o e) (by rw [up _ _ hP]; exact fun z => nomatch z)
theorem se_lam {i : Nat} {f : Str} {params : Arguments} {body : Expr} {scope : Scope} (hh : M.here = some f) (ht : sc.top = true) (hs : M.L.src[i]? = some (f ++ ".<locals>." ++ "<lambda>", params, body, scope)) (hdef : ∀ env, defaultsOf params env = ([], [])) (hfree : ∀ y ∈ scope.names, y.2 ≠ .free) : SE M k N sc (.Lambda params body scope pos) (.lam i) := by
  refine .plain (fun X cx => ⟨fun pins s σ H Q I q => ?_⟩) fun _ _ => rfl
  obtain ⟨π, σD, S, d, S', er, sr, ev, kk⟩ := q
  unfold evE at ev
  cases ev
  obtain ⟨c, P, h1, h2, h3, h4⟩ := cx.lm f hh ht
  have hT : LamX.TabS H P (f ++ ".<locals>." ++ "<lambda>") := sr.tb (P, _) (by rw [h4]; simp)
  have hPt : ∃ ps, H P = some (.tbl ps) := let ⟨ps, h, _⟩ := hT; ⟨ps, h⟩
  refine lam_new I h3 h1 (by rw [h2]) hT (hdef X.env) hfree fun fa c' pm ctv H1 s' I1 g1 g2 g3 g4 g5 => ?_
  have nP : ∀ a, a ∈ π → a ≠ P := fun a ha z => by
    obtain ⟨ps, h⟩ := hPt
    exact sr.notbl ha (z ▸ h)
  have l : Le π H π H1 := ⟨⟨[], by simp, by simp⟩, fun b o _ e nt => g4 b o e (fun z => by
    obtain ⟨ps, h⟩ := hPt
    rw [z, h] at e
    exact nt ps (Option.some.inj e).symm), fun b e => by
    by_cases hb : b = P
    · rw [hb]; exact g5
    · cases e2 : H b with
      | none => exact (e e2).elim
      | some o => rw [g4 b o e2 hb]; exact fun z => nomatch z⟩
  have r' : SRel M.L X.K X.mg π H1 S := sr.le l (fun a ha => by
    cases e2 : H a with
    | none => exact (sr.mem ha e2).elim
    | some o => exact g4 a o e2 (nP a ha)) (by rw [h4]; intro p hp; have e : p = (P, f ++ ".<locals>." ++ "<lambda>") := by simpa using hp
                                               rw [e]; exact g3)
  exact ⟨.ref fa, H1, I1, rfl, kk _ π H1 l r' ⟨fa, _, params, body, scope, pm, c', ctv, rfl, hs, g1, g2⟩⟩
end
end PV

/-! PV9: dict displays. -/
namespace PV
open PySem PySem.Spec PyProof.Rows L2
section
variable {M : Sem} {k : Nat} {N : List Str} {sc : SC} {a b c : Expr} {a' b' c' : E} {pos p0 p1 p2 p3 apos : Pos} {es : List Expr} {es' : Es} {x : Str}
/-- the pairs of a display -/
structure SPs (M : Sem) (k : Nat) (N : List Str) (sc : SC) (keys : List (Option Expr)) (vals : List Expr) (ks : List Str) (es' : Es) : Prop where
  run : ∀ X, CxOk M k N sc X → ∀ pos, ∃ trs, PPs X pos keys vals trs ∧ ∀ σ H Q, (∃ π σD S vs S', ERel M.L X.K X.mg π H σD σ ∧ SRel M.L X.K X.mg π H S ∧ evEs M es' σD S = .ok vs S' ∧ ks.length = vs.length ∧ ∀ us π' H', Le π H π' H' → SRel M.L X.K X.mg π' H' S' → Reps M.L X.K X.mg π' H' vs us → Q ((ks.zip us).map fun p => (V.str p.1, p.2)) H') → tPairs trs σ H Q
  all : keys.all (·.isSome) = true
  l1 : keys.length = vals.length
  l2 : keys.length = ks.length
theorem sp_nil : SPs M k N sc [] [] [] .nil := ⟨fun X cx pos => ⟨[], pps_nil, fun σ H Q h => by
  obtain ⟨π, σD, S, vs, S', er, sr, ev, hl, kk⟩ := h
  unfold evEs at ev
  cases ev
  exact kk [] π H (Le.refl _ _) sr rfl⟩, rfl, rfl, rfl⟩
theorem sp_cons {keys : List (Option Expr)} {vals : List Expr} {ks : List Str} {y : Str} {j : Nat} (ha : SE M k N sc a a') (hs : SPs M k N sc keys vals ks es') : SPs M k N sc (some (.Constant (.str y) j p0) :: keys) (a :: vals) (y :: ks) (.cons a' es') := ⟨fun X cx pos => by
  obtain ⟨trs, h1, h2⟩ := hs.run X cx pos
  refine ⟨_, pps_cons (pe_str (pos := p0)) (ha.v X cx) h1, fun σ H Q h => ?_⟩
  obtain ⟨π, σD, S, vs, S', er, sr, ev, hl, kk⟩ := h
  unfold evEs at ev
  obtain ⟨x, S1, e1, e2⟩ := bind_ok ev
  obtain ⟨xs, S2, e3, e4⟩ := bind_ok e2
  cases e4
  refine ⟨π, σD, S, x, S1, er, sr, e1, fun v π1 H1 l1 r1 p1 => h2 σ H1 _ ⟨π1, σD, S1, xs, _, ERel.le sr l1 er, r1, e3, by simpa using hl, fun us π2 H2 l2 r2 p2 => ?_⟩⟩
  exact kk (v :: us) π2 H2 (l1.trans l2) r2 ⟨v, us, rfl, Rep.le r1 l2 _ _ p1, p2⟩, by rw [List.all_cons, hs.all]; rfl, by rw [List.length_cons, List.length_cons, hs.l1], by rw [List.length_cons, List.length_cons, hs.l2]⟩
/-- a dict's pairs -/
def DRel (L : Lx) (K : PySem.W.Frag) (mg : Str → Option Value) (π : List Addr) (H : Hp) (kvs : List (Key × D)) (ws : List (Key × V)) : Prop := ws.map (·.1) = kvs.map (·.1) ∧ Reps L K mg π H (kvs.map (·.2)) (ws.map (·.2))
theorem drel_cons {L : Lx} {K : PySem.W.Frag} {mg : Str → Option Value} {π : List Addr} {H : Hp} {q : Key} {d : D} {kvs : List (Key × D)} {ws : List (Key × V)} (h : DRel L K mg π H ((q, d) :: kvs) ws) : ∃ v r, ws = (q, v) :: r ∧ Rep L K mg π H d v ∧ DRel L K mg π H kvs r := by
  obtain ⟨h1, v, t, h2, h3, h4⟩ := h
  cases ws with
  | nil => cases h2
  | cons p r =>
    obtain ⟨g, u⟩ := p
    simp only [List.map_cons, List.cons.injEq] at h1 h2
    obtain ⟨h1, h5⟩ := h1
    obtain ⟨h2, h6⟩ := h2
    subst h1 h2 h6
    exact ⟨u, r, rfl, h3, h5, h4⟩
theorem drel_mk {L : Lx} {K : PySem.W.Frag} {mg : Str → Option Value} {π : List Addr} {H : Hp} {q : Key} {d : D} {v : V} {kvs : List (Key × D)} {ws : List (Key × V)} (h : Rep L K mg π H d v) (t : DRel L K mg π H kvs ws) : DRel L K mg π H ((q, d) :: kvs) ((q, v) :: ws) := ⟨by simp only [List.map_cons, t.1], v, _, rfl, h, t.2⟩
theorem drel_any {L : Lx} {K : PySem.W.Frag} {mg : Str → Option Value} {π : List Addr} {H : Hp} {q : Key} : ∀ {kvs : List (Key × D)} {ws : List (Key × V)}, DRel L K mg π H kvs ws → (ws.any fun kv => decide (kv.1 = q)) = kvs.any fun kv => decide (kv.1 = q)
  | [], ws, h => by
    obtain ⟨h1, _⟩ := h
    cases ws with
    | nil => rfl
    | cons _ _ => cases h1
  | (g, d) :: kvs, ws, h => by
    obtain ⟨v, r, rfl, _, t⟩ := drel_cons h
    rw [List.any_cons, List.any_cons, drel_any t]
theorem drel_map {L : Lx} {K : PySem.W.Frag} {mg : Str → Option Value} {π : List Addr} {H : Hp} {q : Key} {d : D} {v : V} (hd : Rep L K mg π H d v) : ∀ {kvs : List (Key × D)} {ws : List (Key × V)}, DRel L K mg π H kvs ws → DRel L K mg π H (kvs.map fun kv => if kv.1 = q then (kv.1, d) else kv) (ws.map fun kv => if kv.1 = q then (kv.1, v) else kv)
  | [], ws, h => by
    obtain ⟨h1, _⟩ := h
    cases ws with
    | nil => exact ⟨rfl, rfl⟩
    | cons _ _ => cases h1
  | (g, e) :: kvs, ws, h => by
    obtain ⟨u, r, rfl, h1, t⟩ := drel_cons h
    rw [List.map_cons, List.map_cons]
    by_cases z : g = q
    · rw [if_pos z, if_pos z]
      exact drel_mk hd (drel_map hd t)
    · rw [if_neg z, if_neg z]
      exact drel_mk h1 (drel_map hd t)
theorem drel_put {L : Lx} {K : PySem.W.Frag} {mg : Str → Option Value} {π : List Addr} {H : Hp} {q : Key} {d : D} {v : V} (hd : Rep L K mg π H d v) {kvs : List (Key × D)} {ws : List (Key × V)} (h : DRel L K mg π H kvs ws) : DRel L K mg π H (putD kvs q d) (putK ws q v) := by
  unfold putD putK
  rw [drel_any h]
  split
  · exact drel_map hd h
  · refine ⟨?_, ?_⟩
    · rw [List.map_append, List.map_append, h.1]; rfl
    · rw [List.map_append, List.map_append]
      exact h.2.append (Reps.one hd)
theorem drel_merge {L : Lx} {K : PySem.W.Frag} {mg : Str → Option Value} {π : List Addr} {H : Hp} : ∀ {ks : List Str} {ds : List D} {us : List V} {kvs : List (Key × D)} {ws : List (Key × V)}, Reps L K mg π H ds us → DRel L K mg π H kvs ws →
    DRel L K mg π H ((ks.zip ds).foldl (fun acc kv => putD acc (.inr kv.1) kv.2) kvs) (mergeK ws ((ks.zip us).map fun p => (Sum.inr p.1, p.2)))
  | [], ds, us, kvs, ws, _, h => h
  | y :: ks, [], us, kvs, ws, r, h => by
    obtain rfl := (show us = [] from r)
    exact h
  | y :: ks, d :: ds, us, kvs, ws, r, h => by
    obtain ⟨v, t, rfl, h1, h2⟩ := r
    exact drel_merge (ks := ks) (ds := ds) (us := t) h2 (drel_put (q := .inr y) h1 h)
theorem se_dict {keys : List (Option Expr)} {vals : List Expr} {ks : List Str} (hs : SPs M k N sc keys vals ks es') (h0 : ks ≠ []) (h15 : ks.length ≤ 15) : SE M k N sc (.Dict keys vals pos) (.dict ks es') := by
  refine .plain (fun X cx => ?_) fun _ _ => rfl
  obtain ⟨trs, h1, h2⟩ := hs.run X cx pos
  refine (pe_disp h1 hs.all hs.l1 (fun z => h0 (by have := hs.l2; rw [z] at this; exact List.length_eq_zero_iff.mp this.symm)) (by rw [hs.l2]; exact h15)).imp fun σ H Q q => ?_
  obtain ⟨π, σD, S, d, S', er, sr, ev, kk⟩ := q
  unfold evE at ev
  obtain ⟨vs, S1, e1, e2⟩ := bind_ok ev
  split at e2
  · rename_i hl
    cases e2
    intro p hp
    have l0 : Le π H π (upd H p (.dK [])) := Le.back (Le.new (u := .dK []) hp)
    have r0 : SRel M.L X.K X.mg π (upd H p (.dK [])) S := sr.le l0 (fun a ha => upd_ne fun e => sr.mem ha (e ▸ hp)) (tabs_new sr.tb hp)
    refine h2 σ _ _ ⟨π, σD, S, vs, S1, ERel.le sr l0 er, r0, e1, hl.1, fun us π2 H2 l2 r2 q2 => ?_⟩
    have np : p ∉ π := sr.fresh hp
    have hp2 : H2 p = some (.dK []) := l2.keep p _ np upd_same fun _ z => nomatch z
    obtain ⟨τ, eτ, fτ⟩ := l2.pre
    have np2 : p ∉ π2 := by
      rw [eτ]
      intro hm
      rcases List.mem_append.mp hm with hm | hm
      · exact np hm
      · have := fτ p hm
        rw [upd_same] at this
        cases this
    refine ⟨hp2, (ks.zip us).map (fun q => (Sum.inr q.1, q.2)), ?_, ?_, ?_⟩
    · rw [List.map_map]; rfl
    · rw [List.length_map, List.length_zip]
      have := hl.2
      omega
    · have D := drel_merge (ks := ks) (kvs := []) (ws := []) q2 ⟨rfl, rfl⟩
      have g1 : ∀ a xs, SqT X.K H2 a xs → SqT X.K (upd H2 p (.dK (mergeK [] ((ks.zip us).map fun q => (Sum.inr q.1, q.2))))) a xs := fun a xs h => by
        rcases h with h | h
        · by_cases e : a = p
          · subst e
            rcases h with h | ⟨o, h⟩ <;> rw [hp2] at h <;> cases h
          · rcases h with h | ⟨o, h⟩
            · exact .inl (.inl (by rw [upd_ne e]; exact h))
            · exact .inl (.inr ⟨o, by rw [upd_ne e]; exact h⟩)
        · exact .inr h
      have g2 : ∀ a φ, H2 a = some (.ext φ) → upd H2 p (.dK (mergeK [] ((ks.zip us).map fun q => (Sum.inr q.1, q.2)))) a = some (.ext φ) := fun a φ h => by
        rw [upd_ne (fun e => by rw [e, hp2] at h; cases h)]; exact h
      have rr := r2.add (H' := upd H2 p (.dK (mergeK [] ((ks.zip us).map fun q => (Sum.inr q.1, q.2))))) (o := .dct ((ks.zip vs).foldl (fun acc kv => putD acc (.inr kv.1) kv.2) [])) np2 g1 g2 (tabs_upd r2.tb (fun _ z => by rw [hp2] at z; cases z) fun _ z => by rw [hp2] at z; cases z) (fun a ha => upd_ne fun e => np2 (e ▸ ha))
        ⟨_, upd_same, D.1, Reps.mov app_get g1 g2 _ _ D.2⟩
      refine kk _ _ _ ?_ rr ⟨p, rfl, ?_⟩
      · refine ⟨⟨τ ++ [p], by rw [eτ, List.append_assoc], fun a ha => ?_⟩, fun a o ha e nt => ?_, fun a e => ?_⟩
        · rcases List.mem_append.mp ha with ha | ha
          · have z := fτ a ha
            by_cases ea : a = p
            · rw [ea]; exact hp
            · rw [upd_ne ea] at z; exact z
          · have ea : a = p := by simpa using ha
            rw [ea]; exact hp
        · have ne : a ≠ p := ne_of_none e hp
          rw [upd_ne ne]
          exact l2.keep a o ha (by rw [upd_ne ne]; exact e) nt
        · by_cases ea : a = p
          · rw [ea, upd_same]; exact fun z => nomatch z
          · rw [upd_ne ea]
            exact l2.live a (by rw [upd_ne ea]; exact e)
      · rw [← r2.len, List.getElem?_append_right (Nat.le_refl _)]
        simp
  · cases e2
end
end PV

/-! PV10: targets, iteration. -/
namespace PV
open PySem PySem.Spec PyProof.Rows L2
mutual
def T.vars : T → List Nat
  | .var i => [i]
  | .tup ts => Ts.vars ts
  | .sub _ _ => []
  | .fld _ _ => []
def Ts.vars : Ts → List Nat
  | .nil => []
  | .cons t ts => T.vars t ++ Ts.vars ts
end
theorem wipe_set {σ : L2.St} {i : Nat} {x : Option V} : ∀ {vs : List Nat}, i ∈ vs → L2.wipe (σ.set i x) vs = L2.wipe σ vs
  | [], h => by cases h
  | v :: vs, h => by
    show (L2.wipe (σ.set i x) vs).set v none = (L2.wipe σ vs).set v none
    by_cases e : i ∈ vs
    · rw [wipe_set e]
    · have ev : i = v := by
        rcases List.mem_cons.mp h with h | h
        · exact h
        · exact absurd h e
      subst ev
      have z : ∀ ws : List Nat, i ∉ ws → L2.wipe (σ.set i x) ws = (L2.wipe σ ws).set i x := by
        intro ws
        induction ws with
        | nil => intro _; rfl
        | cons w ws ih =>
          intro hn
          show (L2.wipe (σ.set i x) ws).set w none = ((L2.wipe σ ws).set w none).set i x
          rw [ih fun q => hn (List.mem_cons_of_mem _ q)]
          exact List.set_comm _ _ fun q => hn (q ▸ List.mem_cons_self ..)
      rw [z vs e, List.set_set]
theorem wipe_idem (σ : L2.St) : ∀ vs : List Nat, L2.wipe (L2.wipe σ vs) vs = L2.wipe σ vs := by
  intro vs
  have key : ∀ (ws : List Nat) (τ : L2.St), (∀ i ∈ ws, τ[i]? = none ∨ τ[i]? = some none) → L2.wipe τ ws = τ := by
    intro ws
    induction ws with
    | nil => intro τ _; rfl
    | cons w ws ih =>
      intro τ h
      show (L2.wipe τ ws).set w none = τ
      rw [ih τ fun i hi => h i (List.mem_cons_of_mem _ hi)]
      rcases h w (List.mem_cons_self ..) with e | e
      · exact List.set_eq_of_length_le (List.getElem?_eq_none_iff.mp e)
      · refine List.ext_getElem? fun j => ?_
        rw [List.getElem?_set]
        split
        · rename_i q
          subst q
          split
          · exact e.symm
          · rename_i hl
            rw [List.getElem?_eq_none (by omega)] at e
            cases e
        · rfl
  refine key vs _ fun i hi => ?_
  cases e : (L2.wipe σ vs)[i]? with
  | none => exact .inl rfl
  | some o =>
    cases o with
    | none => exact .inr rfl
    | some x => exact absurd hi (wipe_some e).2
section
variable {L : Lx} {K : PySem.W.Frag} {mg : Str → Option Value} {π π' : List Addr} {H H' : Hp} {S S' : Sto}
theorem erel_set {σD : En} {σ : L2.St} {i : Nat} {d : D} {v : V} (h : ERel L K mg π H σD σ) (r : Rep L K mg π H d v) : ERel L K mg π H (σD.set i (some d)) (σ.set i (some v)) := by
  refine ⟨by rw [List.length_set, List.length_set, h.len], fun j e hj => ?_⟩
  rw [List.getElem?_set] at hj ⊢
  rw [← h.len]
  split at hj
  · split at hj
    · rename_i h1 h2
      cases hj
      rw [if_pos h1, if_pos h2]
      exact ⟨v, rfl, r⟩
    · cases hj
  · rename_i h1
    rw [if_neg h1]
    exact h.at_ j e hj
theorem erel_none {σD : En} {σ : L2.St} {i : Nat} (h : ERel L K mg π H σD σ) : ERel L K mg π H (σD.set i none) (σ.set i none) := by
  refine ⟨by rw [List.length_set, List.length_set, h.len], fun j e hj => ?_⟩
  rw [List.getElem?_set] at hj ⊢
  split at hj
  · split at hj <;> cases hj
  · rename_i h1
    rw [if_neg h1]
    exact h.at_ j e hj
theorem erel_wipe {σD : En} {σ : L2.St} (h : ERel L K mg π H σD σ) : ∀ vs : List Nat, ERel L K mg π H (wipe σD vs) (L2.wipe σ vs)
  | [] => h
  | v :: vs => erel_none (erel_wipe h vs)
end
section
variable {M : Sem} {k : Nat} {N : List Str} {sc : SC} {a b c : Expr} {a' b' c' : E} {pos p0 p1 p2 p3 apos : Pos} {es : List Expr} {es' : Es} {x : Str} {t : T} {ts : Ts}
/-- what a store leaves -/
def tG (X : Cx) (M : Sem) (t : T) : TG := fun v σ H Q => ∃ π σD S d σD' S', ERel M.L X.K X.mg π H σD σ ∧ SRel M.L X.K X.mg π H S ∧ Rep M.L X.K X.mg π H d v ∧ asT M t d σD S = .ok σD' S' ∧
  ∀ σ' π' H', Le π H π' H' → SRel M.L X.K X.mg π' H' S' → ERel M.L X.K X.mg π' H' σD' σ' → (∀ vs, (∀ i ∈ t.vars, i ∈ vs) → L2.wipe σ' vs = L2.wipe σ vs) → Q σ' H'
def tGs (X : Cx) (M : Sem) (ts : Ts) : TGs := fun v σ H Q => ∃ π σD S d σD' S', ERel M.L X.K X.mg π H σD σ ∧ SRel M.L X.K X.mg π H S ∧ Reps M.L X.K X.mg π H d v ∧ asTs M ts d σD S = .ok σD' S' ∧
  ∀ σ' π' H', Le π H π' H' → SRel M.L X.K X.mg π' H' S' → ERel M.L X.K X.mg π' H' σD' σ' → (∀ vs, (∀ i ∈ ts.vars, i ∈ vs) → L2.wipe σ' vs = L2.wipe σ vs) → Q σ' H'
def ST (M : Sem) (k : Nat) (N : List Str) (sc : SC) (e : Expr) (t : T) : Prop := ∀ X, CxOk M k N sc X → PG X e (tG X M t)
def Ts.len : Ts → Nat
  | .nil => 0
  | .cons _ ts => ts.len + 1
theorem asTs_len {M : Sem} : ∀ {ts : Ts} {ds : List D} {σD : En} {S : Sto} {σD' : En} {S' : Sto}, asTs M ts ds σD S = .ok σD' S' → ts.len = ds.length
  | .nil, ds, σD, S, σD', S', h => by
    unfold asTs at h
    split at h
    · rfl
    · cases h
  | .cons t ts, ds, σD, S, σD', S', h => by
    unfold asTs at h
    split at h
    · rename_i y r
      obtain ⟨σ1, S1, e1, e2⟩ := bind_ok h
      rw [Ts.len, asTs_len e2]
      rfl
    · cases h
structure STs (M : Sem) (k : Nat) (N : List Str) (sc : SC) (es : List Expr) (ts : Ts) : Prop where
  g : ∀ X, CxOk M k N sc X → PGs X es (tGs X M ts)
  len : ts.len = es.length
theorem _root_.L2.PG.imp {X : Cx} {e : Expr} {t t' : TG} (h : PG X e t) (i : ∀ v σ H Q, t' v σ H Q → t v σ H Q) : PG X e t' := ⟨fun pins s σ H v u Q I r q => h.run pins s σ H v u Q I r (i v σ H Q q)⟩
theorem _root_.L2.PGs.imp {X : Cx} {e : List Expr} {t t' : TGs} (h : PGs X e t) (i : ∀ v σ H Q, t' v σ H Q → t v σ H Q) : PGs X e t' := ⟨fun pins s σ H v u Q I r q => h.run pins s σ H v u Q I r (i v σ H Q q)⟩
theorem _root_.L2.PG.or {X : Cx} {e : Expr} {t u : TG} (h : PG X e t) (h' : PG X e u) : PG X e (fun v σ H Q => t v σ H Q ∨ u v σ H Q) := ⟨fun pins s σ H v w Q I r q => q.elim (h.run pins s σ H v w Q I r) (h'.run pins s σ H v w Q I r)⟩
/-- a name that may be stored to -/
def Sto1 (sc : SC) (x : Str) : Prop := sc.names.lookup x = some .local ∨ (sc.top = true ∧ sc.names.lookup x = some .cell)
theorem st_var {i : Nat} (hN : N[i]? = some x) (hx : Sto1 sc x) : ST M k N sc (.Name x pos) (.var i) := fun X cx => by
  refine (pg_name (i := i) (by rw [cx.n]; exact cx.nd) (by rw [cx.n]; exact hN) ?_ ?_).imp fun v σ H Q q => ?_
  · unfold L2.Loc
    rw [cx.sc]
    exact hx.elim .inl fun h => .inr h.2
  · rw [cx.sc]
    exact hx.elim .inr fun h => .inl (cx.fn h.1 x)
  · obtain ⟨π, σD, S, d, σD', S', er, sr, rd, ev, kk⟩ := q
    unfold asT at ev
    split at ev
    · cases ev
      exact kk _ π H (Le.refl _ _) sr (erel_set er rd) fun vs hv => wipe_set (hv i (by simp [T.vars]))
    · cases ev
theorem sts_nil : STs M k N sc [] .nil := by
  refine ⟨fun X cx => pgs_nil.imp fun v σ H Q q => ?_, rfl⟩
  obtain ⟨π, σD, S, d, σD', S', er, sr, rd, ev, kk⟩ := q
  unfold asTs at ev
  split at ev
  · cases ev
    exact ⟨rd, kk σ π H (Le.refl _ _) sr er fun _ _ => rfl⟩
  · cases ev
/-- a target that is no starred one -/
def NotStarT (e : Expr) : Prop := ∀ (es : List Expr) (env : Env), assignEach (e :: es) env = (false, assign e env) :: assignEach es env
theorem sts_cons (ha : ST M k N sc a t) (hs : STs M k N sc es ts) (h : NotStarT a) : STs M k N sc (a :: es) (.cons t ts) := by
  refine ⟨fun X cx => (pgs_cons (ha X cx) (hs.g X cx) (by rw [h]; rfl)).imp fun vs σ H Q q => ?_, by rw [Ts.len, hs.len]; rfl⟩
  obtain ⟨π, σD, S, d, σD', S', er, sr, rd, ev, kk⟩ := q
  unfold asTs at ev
  split at ev
  · rename_i y r
    obtain ⟨σ1, S1, e1, e2⟩ := bind_ok ev
    obtain ⟨v, t', rfl, h1, h2⟩ := rd
    refine ⟨v, t', rfl, π, σD, S, y, σ1, S1, er, sr, h1, e1, fun σ' π1 H1 l1 r1 er1 w1 => ⟨π1, σ1, S1, r, σD', S', er1, r1, Reps.le sr l1 _ _ h2, e2, fun σ2 π2 H2 l2 r2 er2 w2 => kk σ2 π2 H2 (l1.trans l2) r2 er2 fun us hu => ?_⟩⟩
    rw [w2 us fun i hi => hu i (by simp [Ts.vars, hi]), w1 us fun i hi => hu i (by simp [Ts.vars, hi])]
  · cases ev
theorem st_tup {kk : Nat} (hs : STs M k N sc es ts) (hn : ∀ env, (assignEach es env).length = es.length ∧ (assignEach es env).findIdx? (·.1) = none) : ST M k N sc (.Tuple es kk pos) (.tup ts) := fun X cx => by
  refine ((pg_tup (n := es.length) cx.calm (hs.g X cx) (hn X.env).1 (hn X.env).2).or (pg_unl (n := es.length) cx.calm (hs.g X cx) (hn X.env).1 (hn X.env).2)).imp fun v σ H Q q => ?_
  obtain ⟨π, σD, S, d, σD', S', er, sr, rd, ev, kk⟩ := q
  unfold asT at ev
  split at ev
  · rename_i ds hd
    obtain ⟨p, us, rfl, h1, h2⟩ := seqOf_at sr hd rd
    have hl : us.length = es.length := by rw [← h2.length, ← asTs_len ev, hs.len]
    rcases h1 with h1 | h1
    · exact .inr ⟨p, us, rfl, h1, hl, π, σD, S, ds, σD', S', er, sr, h2, ev, kk⟩
    · exact .inl ⟨p, us, rfl, h1, hl, π, σD, S, ds, σD', S', er, sr, h2, ev, kk⟩
  · cases ev
/-- o[i] = v -/
theorem st_sub (ha : SE M k N sc a a') (hb : SE M k N sc b b')
    (hasg : ∀ env v, assign (.Subscript a b pos) env v = (do
      let ov ← holding [v] (eval a env)
      let iv ← holding [v, ov] (eval b env)
      standAt pos
      holding [v, ov, iv] (setItem ov iv v)
      release [v, ov, iv] [])) : ST M k N sc (.Subscript a b pos) (.sub a' b') := fun X cx => by
  refine ((pg_sub (ha.v X cx) (hb.v X cx) set_list (hasg X.env)).or (pg_sub (ha.v X cx) (hb.v X cx) (set_dict (hu1 cx)) (hasg X.env))).imp fun v σ H Q q => ?_
  obtain ⟨π, σD, S, d, σD', S', er, sr, rd, ev, kk⟩ := q
  unfold asT at ev
  obtain ⟨x, S1, e1, e2⟩ := bind_ok ev
  obtain ⟨y, S2, e3, e4⟩ := bind_ok e2
  cases x with
  | loc n =>
    dsimp only at e4
    split at e4
    · rename_i ds hS
      split at e4
      · rename_i kk'
        split at e4
        · rename_i j hj
          cases e4
          refine .inl ⟨π, σD, S, _, S1, er, sr, e1, fun v1 π1 H1 l1 r1 q1 => ⟨π1, σD, S1, _, S2, ERel.le sr l1 er, r1, e3, fun v2 π2 H2 l2 r2 q2 => ?_⟩⟩
          have l12 := l1.trans l2
          obtain ⟨p, us, rfl, hp, hh, hr⟩ := lst_at r2 hS (Rep.le r1 l2 _ _ q1)
          have rv := Rep.le sr l12 _ _ rd
          have ls := Le.set r2 (u := HO.lst (us.set j v)) hp
          refine ⟨p, us, kk', j, rfl, q2, hh, by rw [← hr.length]; exact hj, ?_⟩
          exact kk σ _ _ (l12.trans ls) (r2.set hp ⟨_, upd_same, Reps.le r2 ls _ _ (hr.set j rv)⟩) (ERel.le r2 ls (ERel.le sr l12 er)) fun _ _ => rfl
        · cases e4
      · cases e4
    · rename_i kvs hS
      split at e4
      · rename_i q hq
        split at e4
        · rename_i hz
          cases e4
          refine .inr ⟨π, σD, S, _, S1, er, sr, e1, fun v1 π1 H1 l1 r1 q1 => ⟨π1, σD, S1, _, S2, ERel.le sr l1 er, r1, e3, fun v2 π2 H2 l2 r2 q2 => ?_⟩⟩
          have l12 := l1.trans l2
          obtain ⟨p, rfl, hp⟩ := rep_loc (Rep.le r1 l2 _ _ q1)
          obtain ⟨ws, h1, h2, h3⟩ := r2.at_ n _ p hS hp
          have rv := Rep.le sr l12 _ _ rd
          have ls := Le.set r2 (u := HO.dK (putK ws q v)) hp
          have D := drel_put (q := q) rv (kvs := kvs) (ws := ws) ⟨h2, h3⟩
          refine ⟨p, _, rfl, .inl ⟨ws, q, h1, keyOf_at hq q2, ?_, rfl⟩, ?_⟩
          · have e : ws.length = kvs.length := by simpa using congrArg List.length h2
            rw [e, sizeLine_eq]
            omega
          · exact kk σ _ _ (l12.trans ls) (r2.set hp ⟨_, upd_same, D.1, Reps.le r2 ls _ _ D.2⟩) (ERel.le r2 ls (ERel.le sr l12 er)) fun _ _ => rfl
        · cases e4
      · cases e4
    · cases e4
  | _ => cases e4
end
end PV

/-! PV11: what is walked; comprehensions. -/
namespace PV
open PySem PySem.Spec PyProof.Rows L2
theorem PIimp {X : Cx} {tg it : Expr} {t t' : TI} (h : PI X tg it t) (i : ∀ σ H R, t' σ H R → t σ H R) : PI X tg it t' := ⟨fun pins s σ H R I q => h.run pins s σ H R I (i σ H R q)⟩
theorem PIor {X : Cx} {tg it : Expr} {t t' : TI} (h : PI X tg it t) (h' : PI X tg it t') : PI X tg it (fun σ H R => t σ H R ∨ t' σ H R) := ⟨fun pins s σ H R I q => q.elim (h.run pins s σ H R I) (h'.run pins s σ H R I)⟩
section
variable {M : Sem} {k : Nat} {N : List Str} {sc : SC} {a b c tg : Expr} {a' b' c' : E} {pos p0 p1 p2 p3 apos : Pos} {es : List Expr} {es' : Es} {x : Str} {t : T} {ts : Ts}
/-- J walks xs wherever the lists of g stand as they did -/
def ItOk (X : Cx) (M : Sem) (J : It) (π : List Addr) (H : Hp) (xs : List D) (g : Gd) : Prop := ∀ π1 H1 S1, Le π H π1 H1 → SRel M.L X.K X.mg π1 H1 S1 → stay S1 g = true → ∀ i : Nat,
  (xs.length ≤ i → J.stop i H1) ∧ ∀ x, xs[i]? = some x → J.go i H1 ∧ ∀ v H2, J.yld i H1 v H2 → Rep M.L X.K X.mg π1 H2 x v ∧ Le π1 H1 π1 H2 ∧ SRel M.L X.K X.mg π1 H2 S1
def tI (X : Cx) (M : Sem) (it : I) : TI := fun σ H R => ∃ π σD S xs g S', ERel M.L X.K X.mg π H σD σ ∧ SRel M.L X.K X.mg π H S ∧ evI M it σD S = .ok (xs, g) S' ∧
  ∀ π' H', Le π H π' H' → SRel M.L X.K X.mg π' H' S' → ∀ J, ItOk X M J π' H' xs g → R J H'
def SI (M : Sem) (k : Nat) (N : List Str) (sc : SC) (tg e : Expr) (it : I) : Prop := ∀ X, CxOk M k N sc X → PI X tg e (tI X M it)
theorem itok_tup {X : Cx} {π : List Addr} {H : Hp} {S : Sto} {p : Addr} {ds : List D} {us : List V} (sr : SRel M.L X.K X.mg π H S) (h : SqT X.K H p us) (hr : Reps M.L X.K X.mg π H ds us) : ItOk X M (Itt X.K p) π H ds [] := by
  intro π1 H1 S1 l r _ i
  have q := SqT.le sr l h
  have hr1 := Reps.le sr l _ _ hr
  refine ⟨fun hi => ⟨us, q, by rw [← hr.length]; exact hi⟩, fun x hx => ?_⟩
  obtain ⟨v, hv, rv⟩ := hr1.get hx
  refine ⟨⟨us, v, q, hv⟩, fun w H2 hy => ?_⟩
  obtain ⟨rfl, hy⟩ := hy
  have e := hy us q
  rw [hv] at e
  cases e
  exact ⟨rv, Le.refl _ _, r⟩
theorem stay_one {S : Sto} {n : Nat} {ds : List D} (h : stay S [(n, ds)] = true) : S[n]? = some (.lst ds) ∨ S[n]? = some (.frz ds) := by
  unfold stay at h
  rw [Bool.and_eq_true, Bool.or_eq_true, decide_eq_true_eq, decide_eq_true_eq] at h
  exact h.1
theorem itok_list {X : Cx} {π : List Addr} {H : Hp} {p : Addr} {ds : List D} {n : Nat} (hp : π[n]? = some p) : ItOk X M (Itl X.K p) π H ds [(n, ds)] := by
  intro π1 H1 S1 l r hs i
  have q : ∃ us, SqL X.K H1 p us ∧ Reps M.L X.K X.mg π1 H1 ds us := by
    rcases stay_one hs with e | e
    · obtain ⟨us, h1, h2⟩ := r.at_ n _ p e (l.get hp)
      exact ⟨us, .inl (.inl h1), h2⟩
    · obtain ⟨ob, us, h1, h2⟩ := r.at_ n _ p e (l.get hp)
      exact ⟨us, .inl (.inr ⟨ob, h1⟩), h2⟩
  obtain ⟨us, q, hr⟩ := q
  refine ⟨fun hi => ⟨us, q, by rw [← hr.length]; exact hi⟩, fun x hx => ?_⟩
  obtain ⟨v, hv, rv⟩ := hr.get hx
  refine ⟨⟨us, v, q, hv⟩, fun w H2 hy => ?_⟩
  obtain ⟨rfl, hy⟩ := hy
  have e := hy us q
  rw [hv] at e
  cases e
  exact ⟨rv, Le.refl _ _, r⟩
theorem si_seq (ha : SE M k N sc a a') : SI M k N sc tg a (.seq a') := fun X cx => PIimp (PIor (pi_tup (ha.v X cx)) (pi_list (ha.v X cx))) fun σ H R q => by
  obtain ⟨π, σD, S, xs, g, S', er, sr, ev, kk⟩ := q
  unfold evI at ev
  obtain ⟨x, S1, e1, e2⟩ := bind_ok ev
  cases x with
  | tup ds =>
    cases e2
    refine .inl ⟨π, σD, S, _, _, er, sr, e1, fun v π1 H1 l1 r1 q1 => ?_⟩
    obtain ⟨p, us, rfl, h1, h2⟩ := rep_tup q1
    exact ⟨p, rfl, ⟨us, h1⟩, kk π1 H1 l1 r1 _ (itok_tup r1 h1 h2)⟩
  | loc n =>
    dsimp only at e2
    split at e2
    · rename_i ds hd
      cases e2
      refine .inr ⟨π, σD, S, _, _, er, sr, e1, fun v π1 H1 l1 r1 q1 => ?_⟩
      obtain ⟨p, us, m, rfl, e, hp, h1, h2, _⟩ := listOf_at r1 hd q1
      cases e
      exact ⟨p, rfl, ⟨us, h1⟩, kk π1 H1 l1 r1 _ (itok_list hp)⟩
    · cases e2
  | _ => cases e2
theorem range_get {lo : Int} {n i : Nat} {x : D} (h : (rangeItems lo n)[i]? = some x) : i < n ∧ x = .int (lo + (i : Nat)) := by
  unfold rangeItems at h
  rw [List.getElem?_map] at h
  cases e : (List.range n)[i]? with
  | none => rw [e] at h; cases h
  | some j =>
    rw [e] at h
    obtain ⟨h1, h2⟩ := List.getElem?_eq_some_iff.mp e
    rw [List.length_range] at h1
    rw [List.getElem_range] at h2
    subst h2
    cases h
    exact ⟨h1, rfl⟩
theorem itok_range {X : Cx} {π : List Addr} {H : Hp} {lo : Int} {n : Nat} : ItOk X M (Itr lo n) π H (rangeItems lo n) [] := by
  intro π1 H1 S1 l r _ i
  refine ⟨fun hi => ?_, fun x hx => ?_⟩
  · show n ≤ i
    unfold rangeItems at hi
    simpa using hi
  · obtain ⟨h1, rfl⟩ := range_get hx
    refine ⟨h1, fun w H2 hy => ?_⟩
    obtain ⟨rfl, rfl⟩ := hy
    exact ⟨rfl, Le.refl _ _, r⟩
theorem starEach_one {a : Expr} (h : NotStar a) (env : Env) : starEach [a] env = [(false, eval a env)] := h [] env
theorem si_range1 (hs : SEs M k N sc [a] es') (hg : sc.names.lookup ("range" : Str) = some .globalImplicit) (hst : NotStar a) : SI M k N sc tg (.Call (.Name "range" p0) [a] [] pos) (.range1 es') := fun X cx => PIimp (pi_range1 (cx.gl hg) (cx.fct.nb _ (by decide)) (hs.a X cx) (starEach_one hst X.env)) fun σ H R q => by
  obtain ⟨π, σD, S, xs, g, S', er, sr, ev, kk⟩ := q
  unfold evI at ev
  obtain ⟨vs, S1, e1, e2⟩ := bind_ok ev
  refine ⟨π, σD, S, vs, S1, er, sr, e1, fun us π1 H1 l1 r1 q1 => ?_⟩
  split at e2
  · rename_i j
    split at e2
    · rename_i hz
      cases e2
      obtain ⟨v, rfl, r2⟩ := reps_one q1
      obtain rfl := (show v = V.int j from r2)
      exact ⟨j, rfl, by omega, by omega, kk π1 H1 l1 r1 _ itok_range⟩
    · cases e2
  · cases e2
theorem si_range2 (hs : SEs M k N sc [a, b] es') (hg : sc.names.lookup ("range" : Str) = some .globalImplicit) (hst : NotStar a) (hst2 : NotStar b) : SI M k N sc tg (.Call (.Name "range" p0) [a, b] [] pos) (.range2 es') := fun X cx => PIimp (pi_range2 (cx.gl hg) (cx.fct.nb _ (by decide)) (hs.a X cx) (by rw [hst [b] X.env, starEach_one hst2 X.env]) (starEach_one hst2 X.env)) fun σ H R q => by
  obtain ⟨π, σD, S, xs, g, S', er, sr, ev, kk⟩ := q
  unfold evI at ev
  obtain ⟨vs, S1, e1, e2⟩ := bind_ok ev
  refine ⟨π, σD, S, vs, S1, er, sr, e1, fun us π1 H1 l1 r1 q1 => ?_⟩
  split at e2
  · rename_i i j
    split at e2
    · rename_i hz
      cases e2
      obtain ⟨v, w, rfl, r2, r3⟩ := reps_two q1
      obtain rfl := (show v = V.int i from r2)
      obtain rfl := (show w = V.int j from r3)
      exact ⟨i, j, rfl, ⟨by omega, by omega, by omega, by omega⟩, kk π1 H1 l1 r1 _ itok_range⟩
    · cases e2
  · cases e2
/-! ### comprehensions -/
/-- a clause's test -/
def tC (X : Cx) (M : Sem) (o : Oe) : TT := fun σ H Q => ∃ π σD S b S', ERel M.L X.K X.mg π H σD σ ∧ SRel M.L X.K X.mg π H S ∧ evC M o σD S = .ok b S' ∧ ∀ π' H', Le π H π' H' → SRel M.L X.K X.mg π' H' S' → Q b H'
def SCd (M : Sem) (k : Nat) (N : List Str) (sc : SC) (ifs : List Expr) (o : Oe) : Prop := ∀ X, CxOk M k N sc X → PTs X ifs (tC X M o)
theorem scd_nil : SCd M k N sc [] .none := fun X cx => ⟨fun pins s σ H Q I q => by
  obtain ⟨π, σD, S, b, S', er, sr, ev, kk⟩ := q
  unfold evC at ev
  cases ev
  exact pts_nil.run pins s σ H Q I (kk π H (Le.refl _ _) sr)⟩
theorem scd_one (ha : SE M k N sc a a') : SCd M k N sc [a] (.some a') := fun X cx => ⟨fun pins s σ H Q I q => by
  obtain ⟨π, σD, S, b, S', er, sr, ev, kk⟩ := q
  unfold evC at ev
  obtain ⟨x, S1, e1, e2⟩ := bind_ok ev
  refine (pts_one (ha.t X cx)).run pins s σ H Q I ⟨π, σD, S, b, S', er, sr, ?_, kk⟩
  cases x with
  | bl c => cases e2; exact e1
  | _ => cases e2⟩
/-- the scope of a comprehension's block -/
def blkSC (scope : Scope) (sc : SC) : SC := ⟨relS scope sc.toScope, false⟩
theorem blk_ok {X : Cx} (cx : CxOk M k N sc X) (scope : Scope) (s : Shared) (H : Hp) (C : Addr) (cl : List (Str × Addr)) (fp : List Addr) : CxOk M k N (blkSC scope sc) (X.blk s H scope (compEnvC scope cl C X.env) fp) where
  n := cx.n
  nd := cx.nd
  sc := by
    show relabel scope X.env = relS scope sc.toScope
    rw [← cx.sc] <;> rfl
  calm := cx.calm
  xe := rfl
  room := cx.room
  fn := fun h => nomatch h
  gd := cx.gd
  lm := fun f _ h => nomatch h
  fct := cx.fct
/-- what stays where a tracked list outside of the store is written -/
theorem lst_mov {K : PySem.W.Frag} {H : Hp} {p : Addr} {vs ws : List V} (h : H p = some (.lst vs)) : (∀ a xs, SqT K H a xs → SqT K (upd H p (.lst ws)) a xs) ∧ ∀ a φ, H a = some (.ext φ) → upd H p (.lst ws) a = some (.ext φ) := by
  refine ⟨fun a xs q => ?_, fun a φ q => ?_⟩
  · rcases q with q | q
    · have e : a ≠ p := fun z => by subst z; rcases q with q | ⟨o, q⟩ <;> rw [h] at q <;> cases q
      rcases q with q | ⟨o, q⟩
      · exact .inl (.inl (by rw [upd_ne e]; exact q))
      · exact .inl (.inr ⟨o, by rw [upd_ne e]; exact q⟩)
    · exact .inr q
  · rw [upd_ne (fun z => by rw [z, h] at q; cases q)]
    exact q
theorem SRel.mov {L : Lx} {K : PySem.W.Frag} {mg : Str → Option Value} {π : List Addr} {H H' : Hp} {S : Sto} (r : SRel L K mg π H S) (g : ∀ a xs, SqT K H a xs → SqT K H' a xs) (g2 : ∀ a φ, H a = some (.ext φ) → H' a = some (.ext φ)) (tb : LamX.Tabs (tabs L K mg) H') (e : ∀ a ∈ π, H' a = H a) : SRel L K mg π H' S :=
  ⟨r.len, r.nd, fun n o a h1 h2 => orel_mov (fun _ _ h => h) g g2 (r.at_ n o a h1 h2) (e a (List.mem_of_getElem? h2)), tb⟩
/-- a write to a tracked list that is none of the store's, seen from before it was made -/
theorem Le.over {π0 π : List Addr} {H0 H : Hp} {p : Addr} {u : HO} (l : Le π0 H0 π H) (h : H0 p = none) : Le π0 H0 π (upd H p u) :=
  ⟨l.pre, fun a o ha e nt => by rw [upd_ne (ne_of_none e h)]; exact l.keep a o ha e nt, fun a e => by
    by_cases q : a = p
    · rw [q, upd_same]; exact fun z => nomatch z
    · rw [upd_ne q]; exact l.live a e⟩
/-- what is not of the store and stands stays out of it -/
theorem Le.out {π π' : List Addr} {H H' : Hp} (l : Le π H π' H') {p : Addr} (n : p ∉ π) (h : H p ≠ none) : p ∉ π' := by
  obtain ⟨τ, e, f⟩ := l.pre
  rw [e]
  intro hm
  rcases List.mem_append.mp hm with hm | hm
  · exact n hm
  · exact h (f p hm)
theorem se_comp {elt it : Expr} {ifs : List Expr} {scope : Scope} {own : List (Str × Nat)} {it' : I} {cond : Oe} {elt' : E} (hi : SI M k N sc tg it it') (ok : BlkOk N sc.toScope scope own)
    (hg : ST M k N (blkSC scope sc) tg t) (ht : SCd M k N (blkSC scope sc) ifs cond) (he : SE M k N (blkSC scope sc) elt elt') (hs : ∀ env x, foldedSetIterable it env x = pure x) (hv : ∀ i ∈ t.vars, i ∈ own.map (·.2)) :
    ∀ X, CxOk M k N sc X → (PI X tg it (tI X M it') ∧ BlkOk X.N X.env.scope scope own ∧ (∀ (s : Shared) (H : Hp) (C : Addr) (cl : List (Str × Addr)) (fp : List Addr), PG (X.blk s H scope (compEnvC scope cl C X.env) fp) tg (tG X M t)) ∧
      (∀ (s : Shared) (H : Hp) (C : Addr) (cl : List (Str × Addr)) (fp : List Addr), PTs (X.blk s H scope (compEnvC scope cl C X.env) fp) ifs (tC X M cond)) ∧
      (∀ (s : Shared) (H : Hp) (C : Addr) (cl : List (Str × Addr)) (fp : List Addr), PE (X.blk s H scope (compEnvC scope cl C X.env) fp) elt (tS X M elt'))) ∧
      ∀ σ H Q, tS X M (.comp (own.map (·.2)) t it' cond elt') σ H Q → tLc (tI X M it') (tG X M t) (tC X M cond) (tS X M elt') (own.map (·.2)) σ H Q := by
  intro X cx
  refine ⟨⟨hi X cx, by rw [cx.n, cx.sc]; exact ok, fun s H C cl fp => hg _ (blk_ok cx scope s H C cl fp), fun s H C cl fp => ht _ (blk_ok cx scope s H C cl fp), fun s H C cl fp => he.v _ (blk_ok cx scope s H C cl fp)⟩, fun σ H Q q => ?_⟩
  obtain ⟨π, σD, S, d, S', er, sr, ev, kk⟩ := q
  unfold evE at ev
  obtain ⟨⟨xs, g⟩, S1, e1, e2⟩ := bind_ok ev
  dsimp only at e2
  obtain ⟨accF, S2, e3, e4⟩ := bind_ok e2
  cases e4
  refine ⟨π, σD, S, xs, g, S1, er, sr, e1, fun π1 H1 l1 r1 J hJ q hD => ?_⟩
  generalize hf : (fun (x : D) (S : Sto) => (asT M t x (wipe σD (own.map (·.2))) S).bind fun σ1 S1 => (evC M cond σ1 S1).bind fun b S2 => match b with
        | true => (evE M elt' σ1 S2).bind fun v S3 => Res.ok [v] S3
        | false => Res.ok [] S2) = f at e3
  have nD : q ∉ π1 := r1.fresh hD
  refine ⟨fun i m H' => m = xs.length - i ∧ i ≤ xs.length ∧ ∃ π2 S3 acc vs, Le π1 H1 π2 H' ∧ q ∉ π2 ∧ SRel M.L X.K X.mg π2 H' S3 ∧ H' q = some (.lst vs) ∧ Reps M.L X.K X.mg π2 H' acc vs ∧ compGo f g (xs.drop i) acc S3 = .ok accF S2, ⟨_, rfl, Nat.zero_le _, π1, S1, [], [], ?_⟩, ?_⟩
  · exact ⟨(Le.refl _ _).over hD, nD, r1.le (Le.back (Le.new (u := .lst []) hD)) (fun a ha => upd_ne fun e => nD (e ▸ ha)) (tabs_new r1.tb hD), upd_same, rfl, by rw [List.drop_zero]; exact e3⟩
  · rintro i m H' ⟨rfl, hi, π2, S3, acc, vs, l2, n2, r2, hL, ra, ee⟩
    by_cases hlt : i < xs.length
    · have ex : xs[i]? = some xs[i] := List.getElem?_eq_getElem hlt
      rw [List.drop_eq_getElem_cons hlt] at ee
      unfold compGo at ee
      split at ee
      · rename_i hst
        obtain ⟨more, S4, e5, e6⟩ := bind_ok ee
        split at e6
        · rename_i hz
          obtain ⟨g1, g2⟩ := (hJ π2 H' S3 l2 r2 hst i).2 _ ex
          refine .inr ⟨g1, fun H'' => ∃ π5 S5 acc' vs', Le π1 H1 π5 H'' ∧ q ∉ π5 ∧ SRel M.L X.K X.mg π5 H'' S5 ∧ H'' q = some (.lst vs') ∧ Reps M.L X.K X.mg π5 H'' acc' vs' ∧ compGo f g (xs.drop (i + 1)) acc' S5 = .ok accF S2, fun H'' h => ⟨_, by omega, rfl, hlt, h⟩, fun v H2 hy => ?_⟩
          obtain ⟨rv, ly, ry⟩ := g2 v H2 hy
          have lst : ∀ {π5 H5}, Le π2 H' π5 H5 → H5 q = some (.lst vs) ∧ q ∉ π5 := fun l => ⟨l.keep q _ n2 hL (fun _ z => nomatch z), l.out n2 (by rw [hL]; exact fun z => nomatch z)⟩
          rw [← hf] at e5
          obtain ⟨σ1, S5, e7, e8⟩ := bind_ok e5
          obtain ⟨bb, S6, e9, e10⟩ := bind_ok e8
          have er2 : ERel M.L X.K X.mg π2 H2 (wipe σD (own.map (·.2))) (L2.wipe σ (own.map (·.2))) := erel_wipe (ERel.le r2 ly (ERel.le r1 l2 (ERel.le sr l1 er))) _
          refine ⟨π2, _, S3, _, σ1, S5, er2, ry, rv, e7, fun σ2 π3 H3 l3 r3 er3 w3 => ⟨by rw [w3 _ hv, wipe_idem], π3, σ1, S5, bb, S6, er3, r3, e9, fun π4 H4 l4 r4 => ?_⟩⟩
          have l24 := (ly.trans l3).trans l4
          cases bb with
          | true =>
            show tS X M elt' σ2 H4 _
            obtain ⟨y, S7, e11, e12⟩ := bind_ok e10
            cases e12
            refine ⟨π4, σ1, S6, y, _, ERel.le r3 l4 er3, r4, e11, fun w π5 H5 l5 r5 q5 => ⟨vs, (lst (l24.trans l5)).1, ?_, ?_⟩⟩
            · have := ra.length
              exact Nat.lt_of_lt_of_le (by omega : vs.length < mostLen) (most_line (Nat.le_refl _))
            · obtain ⟨h5, n5⟩ := lst (l24.trans l5)
              obtain ⟨m1, m2⟩ := lst_mov (K := X.K) (ws := vs ++ [w]) h5
              refine ⟨π5, S4, acc ++ [y], vs ++ [w], ((l2.trans l24).trans l5).over hD, n5, r5.mov m1 m2 (tabs_upd r5.tb (fun _ z => by rw [h5] at z; cases z) fun _ z => by rw [h5] at z; cases z) (fun a ha => upd_ne fun e => n5 (e ▸ ha)), upd_same, ?_, e6⟩
              exact Reps.mov (fun _ _ h => h) m1 m2 _ _ ((Reps.le r2 (l24.trans l5) _ _ ra).append (Reps.one q5))
          | false =>
            cases e10
            obtain ⟨h4, n4⟩ := lst l24
            exact ⟨π4, S4, acc, vs, l2.trans l24, n4, r4, h4, Reps.le r2 l24 _ _ ra, by rw [List.append_nil] at e6; exact e6⟩
        · cases e6
      · cases ee
    · have e : i = xs.length := by omega
      subst e
      rw [List.drop_length] at ee
      unfold compGo at ee
      split at ee
      · rename_i hst
        cases ee
        refine .inl ⟨(hJ π2 H' _ l2 r2 hst _).1 (Nat.le_refl _), ?_⟩
        have rr := r2.add (o := .lst accF) n2 (fun _ _ h => h) (fun _ _ h => h) r2.tb (fun _ _ => rfl) ⟨vs, hL, Reps.mov app_get (fun _ _ h => h) (fun _ _ h => h) _ _ ra⟩
        refine kk _ _ _ ?_ rr ⟨q, rfl, ?_⟩
        · have l := l1.trans l2
          obtain ⟨τ, eτ, fτ⟩ := l.pre
          refine ⟨⟨τ ++ [q], by rw [eτ, List.append_assoc], fun a ha => ?_⟩, l.keep, l.live⟩
          rcases List.mem_append.mp ha with ha | ha
          · exact fτ a ha
          · have ea : a = q := by simpa using ha
            rw [ea]
            exact Classical.byContradiction fun z => l1.live q z hD
        · rw [← r2.len, List.getElem?_append_right (Nat.le_refl _)]
          simp
      · cases ee
end
end PV

/-! PV12: statements. -/
namespace PV
open PySem PySem.Spec PyProof.Rows L2
section
variable {M : Sem} {k : Nat} {N : List Str} {sc : SC} {a b c tg : Expr} {a' b' c' : E} {pos p0 p1 p2 p3 apos : Pos} {es : List Expr} {es' : Es} {x : Str} {t : T} {ts : Ts} {W : Nat} {st : Stmt} {sts sts2 : List Stmt} {C1 C2 : C} {Cs1 Cs2 : Cs}
/-- how a run ends -/
def Fin (X : Cx) (M : Sem) (π : List Addr) (H : Hp) (D : Ends) : Fl → Prop
  | .nx σD => ∀ σ, ERel M.L X.K X.mg π H σD σ → D.nx σ H
  | .ct σD => ∀ σ, ERel M.L X.K X.mg π H σD σ → D.ct σ H
  | .bk σD => ∀ σ, ERel M.L X.K X.mg π H σD σ → D.bk σ H
  | .ret d => ∀ v, Rep M.L X.K X.mg π H d v → D.rt v H
def tRun (X : Cx) (M : Sem) (f : En → Sto → Res Fl) : TS := fun D σ H => ∃ π σD S fl S', ERel M.L X.K X.mg π H σD σ ∧ SRel M.L X.K X.mg π H S ∧ f σD S = .ok fl S' ∧ ∀ π' H', Le π H π' H' → SRel M.L X.K X.mg π' H' S' → Fin X M π' H' D fl
def SS (M : Sem) (k : Nat) (N : List Str) (sc : SC) (W : Nat) (st : Stmt) (c : C) : Prop := ∀ X, CxOk M k N sc X → PS X st (tRun X M (exC M W c))
def SSs (M : Sem) (k : Nat) (N : List Str) (sc : SC) (W : Nat) (st : List Stmt) (c : Cs) : Prop := ∀ X, CxOk M k N sc X → PSs X st (tRun X M (exCs M W c))
theorem PSimp {X : Cx} {st : Stmt} {t t' : TS} (h : PS X st t) (i : ∀ D σ H, t' D σ H → t D σ H) : PS X st t' := ⟨fun pins s σ H D I q => h.run pins s σ H D I (i D σ H q)⟩
theorem PSsimp {X : Cx} {st : List Stmt} {t t' : TS} (h : PSs X st t) (i : ∀ D σ H, t' D σ H → t D σ H) : PSs X st t' := ⟨fun pins s σ H D I q => h.run pins s σ H D I (i D σ H q)⟩
theorem ss_pass : SS M k N sc W (.Pass pos) .pass := fun X cx => PSimp ps_pass fun D σ H q => by
  obtain ⟨π, σD, S, fl, S', er, sr, ev, kk⟩ := q
  unfold exC at ev
  cases ev
  exact kk π H (Le.refl _ _) sr σ er
theorem ss_brk : SS M k N sc W (.Break pos) .brk := fun X cx => PSimp ps_break fun D σ H q => by
  obtain ⟨π, σD, S, fl, S', er, sr, ev, kk⟩ := q
  unfold exC at ev
  cases ev
  exact kk π H (Le.refl _ _) sr σ er
theorem ss_cont : SS M k N sc W (.Continue pos) .cont := fun X cx => PSimp ps_continue fun D σ H q => by
  obtain ⟨π, σD, S, fl, S', er, sr, ev, kk⟩ := q
  unfold exC at ev
  cases ev
  exact kk π H (Le.refl _ _) sr σ er
theorem ss_never : SS M k N sc W st .never := fun X cx => PSimp ps_never fun D σ H q => by
  obtain ⟨π, σD, S, fl, S', er, sr, ev, kk⟩ := q
  unfold exC at ev
  cases ev
theorem ss_expr (ha : SE M k N sc a a') (hs : ∀ env, swapsWith a none pos.line env = pure false) : SS M k N sc W (.Expr a pos) (.expr a') := fun X cx => PSimp (ps_expr (ha.v X cx) (hs X.env)) fun D σ H q => by
  obtain ⟨π, σD, S, fl, S', er, sr, ev, kk⟩ := q
  unfold exC at ev
  obtain ⟨v, S1, e1, e2⟩ := bind_ok ev
  cases e2
  exact ⟨π, σD, S, v, _, er, sr, e1, fun v1 π1 H1 l1 r1 q1 => kk π1 H1 l1 r1 σ (ERel.le sr l1 er)⟩
theorem ss_ret (ha : SE M k N sc a a') : SS M k N sc W (.Return (some a) pos) (.ret (.some a')) := fun X cx => PSimp (ps_ret (ha.v X cx)) fun D σ H q => by
  obtain ⟨π, σD, S, fl, S', er, sr, ev, kk⟩ := q
  unfold exC at ev
  obtain ⟨v, S1, e1, e2⟩ := bind_ok ev
  cases e2
  exact ⟨π, σD, S, v, _, er, sr, e1, fun v1 π1 H1 l1 r1 q1 => kk π1 H1 l1 r1 v1 q1⟩
theorem ss_retN : SS M k N sc W (.Return none pos) (.ret .none) := fun X cx => PSimp ps_retN fun D σ H q => by
  obtain ⟨π, σD, S, fl, S', er, sr, ev, kk⟩ := q
  unfold exC at ev
  cases ev
  exact kk π H (Le.refl _ _) sr .non rfl
theorem ss_if (hc : SE M k N sc c c') (ha : SSs M k N sc W sts Cs1) (hb : SSs M k N sc W sts2 Cs2) : SS M k N sc W (.If c sts sts2 pos) (.iff c' Cs1 Cs2) := fun X cx => PSimp (ps_if (hc.t X cx) (ha X cx) (hb X cx)) fun D σ H q => by
  obtain ⟨π, σD, S, fl, S', er, sr, ev, kk⟩ := q
  unfold exC at ev
  obtain ⟨v, S1, e1, e2⟩ := bind_ok ev
  cases v with
  | bl t =>
    refine ⟨π, σD, S, t, S1, er, sr, e1, fun π1 H1 l1 r1 => ?_⟩
    cases t with
    | true => exact ⟨π1, σD, S1, fl, S', ERel.le sr l1 er, r1, e2, fun π' H' l r => kk π' H' (l1.trans l) r⟩
    | false => exact ⟨π1, σD, S1, fl, S', ERel.le sr l1 er, r1, e2, fun π' H' l r => kk π' H' (l1.trans l) r⟩
  | _ => cases e2
theorem sss_nil : SSs M k N sc W [] .nil := fun X cx => PSsimp pss_nil fun D σ H q => by
  obtain ⟨π, σD, S, fl, S', er, sr, ev, kk⟩ := q
  unfold exCs at ev
  cases ev
  exact kk π H (Le.refl _ _) sr σ er
theorem sss_cons (h1 : SS M k N sc W st C1) (h2 : SSs M k N sc W sts Cs1) : SSs M k N sc W (st :: sts) (.cons C1 Cs1) := fun X cx => PSsimp (pss_cons (h1 X cx) (h2 X cx)) fun D σ H q => by
  obtain ⟨π, σD, S, fl, S', er, sr, ev, kk⟩ := q
  unfold exCs at ev
  obtain ⟨f1, S1, e1, e2⟩ := bind_ok ev
  refine ⟨π, σD, S, f1, S1, er, sr, e1, fun π1 H1 l1 r1 => ?_⟩
  cases f1 with
  | nx σ1 => exact fun σ' er1 => ⟨π1, σ1, S1, fl, S', er1, r1, e2, fun π' H' l r => kk π' H' (l1.trans l) r⟩
  | ct σ1 => cases e2; exact kk π1 H1 l1 r1
  | bk σ1 => cases e2; exact kk π1 H1 l1 r1
  | ret d => cases e2; exact kk π1 H1 l1 r1
/-- target = value -/
theorem ss_asg (ha : SE M k N sc a a') (hg : ST M k N sc tg t) (hs : ∀ env, swapsWithSole [tg] a pos.line env = pure false) (hw : ∀ env, swappedStores [tg] a env = pure none) (hn : NotStarT tg) : SS M k N sc W (.Assign [tg] a pos) (.asg t a') := fun X cx =>
  PSimp (ps_asg (ha.v X cx) (hg X cx) (hs X.env) (hw X.env) (by rw [hn [] X.env]; rfl)) fun D σ H q => by
  obtain ⟨π, σD, S, fl, S', er, sr, ev, kk⟩ := q
  unfold exC at ev
  obtain ⟨v, S1, e1, e2⟩ := bind_ok ev
  obtain ⟨σ1, S2, e3, e4⟩ := bind_ok e2
  cases e4
  exact ⟨π, σD, S, v, S1, er, sr, e1, fun v1 π1 H1 l1 r1 q1 => ⟨π1, σD, S1, v, σ1, _, ERel.le sr l1 er, r1, q1, e3, fun σ' π2 H2 l2 r2 er2 _ => kk π2 H2 (l1.trans l2) r2 σ' er2⟩⟩
/-- name = [..] -/
theorem ss_asgLc {i : Nat} {elt it : Expr} {ifs : List Expr} {scope : Scope} {own : List (Str × Nat)} {it' : I} {cond : Oe} {elt' : E} (hN : N[i]? = some x) (hx : sc.names.lookup x = some .local) (hk : sc.kind = .function) (hl : (p0.line == p1.line) = true)
    (ho : (scope.names.any fun (n, k) => n == x && (k == .local || k == .cell)) = false)
    (hi : SI M k N sc tg it it') (ok : BlkOk N sc.toScope scope own) (hg : ST M k N (blkSC scope sc) tg t) (ht : SCd M k N (blkSC scope sc) ifs (cond)) (he : SE M k N (blkSC scope sc) elt elt') (hs : ∀ env x, foldedSetIterable it env x = pure x) (hv : ∀ i ∈ t.vars, i ∈ own.map (·.2)) :
    SS M k N sc W (.Assign [.Name x p0] (.ListComp elt [⟨tg, it, ifs, 0⟩] scope p1) pos) (.asg (.var i) (.comp (own.map (·.2)) t it' cond elt')) := fun X cx => by
  obtain ⟨⟨h1, h2, h3, h4, h5⟩, h6⟩ := se_comp hi ok hg ht he hs hv X cx
  refine PSimp (ps_setLc (i := i) cx.calm (by rw [cx.n]; exact cx.nd) (by rw [cx.n]; exact hN) (by rw [cx.sc]; exact hx) (sw_true (by rw [cx.sc]; exact hk) (by rw [cx.sc]; exact hx) hl ho) h1 h2 h3 h4 h5 (hs X.env)) fun D σ H q => ?_
  obtain ⟨π, σD, S, fl, S', er, sr, ev, kk⟩ := q
  unfold exC at ev
  obtain ⟨v, S1, e1, e2⟩ := bind_ok ev
  obtain ⟨σ1, S2, e3, e4⟩ := bind_ok e2
  cases e4
  refine h6 σ H _ ⟨π, σD, S, v, S1, er, sr, e1, fun v1 π1 H1 l1 r1 q1 => ?_⟩
  unfold asT at e3
  split at e3
  · cases e3
    exact kk π1 H1 l1 r1 _ (erel_set (ERel.le sr l1 er) q1)
  · cases e3
/-- a comprehension as a value -/
theorem se_lc {elt it : Expr} {ifs : List Expr} {scope : Scope} {own : List (Str × Nat)} {it' : I} {cond : Oe} {elt' : E} (hi : SI M k N sc tg it it') (ok : BlkOk N sc.toScope scope own) (hg : ST M k N (blkSC scope sc) tg t) (ht : SCd M k N (blkSC scope sc) ifs (cond)) (he : SE M k N (blkSC scope sc) elt elt')
    (hs : ∀ env x, foldedSetIterable it env x = pure x) (hv : ∀ i ∈ t.vars, i ∈ own.map (·.2)) : SE M k N sc (.ListComp elt [⟨tg, it, ifs, 0⟩] scope pos) (.comp (own.map (·.2)) t it' cond elt') := by
  refine .plain (fun X cx => ?_) fun _ _ => rfl
  obtain ⟨⟨h1, h2, h3, h4, h5⟩, h6⟩ := se_comp hi ok hg ht he hs hv X cx
  exact (pe_lc cx.calm (by rw [cx.n]; exact cx.nd) h1 h2 h3 h4 h5 (hs X.env)).imp h6
theorem fld_put {L : Lx} {K : PySem.W.Frag} {mg : Str → Option Value} {π : List Addr} {H : Hp} {f : Str} {d : D} {v : V} (hd : Rep L K mg π H d v) : ∀ {fs : List (Str × D)} {ws : List (Str × V)}, ws.map (·.1) = fs.map (·.1) → Reps L K mg π H (fs.map (·.2)) (ws.map (·.2)) → (putF f v ws).map (·.1) = (putFD f d fs).map (·.1) ∧ Reps L K mg π H ((putFD f d fs).map (·.2)) ((putF f v ws).map (·.2))
  | [], [], _, _ => ⟨rfl, v, [], rfl, hd, rfl⟩
  | [], _ :: _, e, _ => by cases e
  | _ :: _, [], e, _ => by cases e
  | (g, x) :: fs, (g', y) :: ws, e, r => by
    simp only [List.map_cons, List.cons.injEq] at e
    obtain ⟨e1, e2⟩ := e
    subst e1
    obtain ⟨u, t, e3, h1, h2⟩ := r
    simp only [List.map_cons, List.cons.injEq] at e3
    obtain ⟨e4, e5⟩ := e3
    subst e4 e5
    unfold putF putFD
    by_cases q : g' = f
    · rw [if_pos q, if_pos q]
      exact ⟨by simp only [List.map_cons, e2], _, _, rfl, hd, h2⟩
    · rw [if_neg q, if_neg q]
      obtain ⟨i1, i2⟩ := fld_put hd e2 h2
      exact ⟨by simp only [List.map_cons, i1], _, _, rfl, h1, i2⟩
/-- o.f = value -/
theorem ss_fld {f : Str} (ha : SE M k N sc a a') (hb : SE M k N sc b b') (hs : ∀ env, swapsWith b (some (.Attribute a f p0)) pos.line env = pure false) : SS M k N sc W (.Assign [.Attribute a f p0] b pos) (.asg (.fld a' f) b') := fun X cx => PSimp (ps_fld (ha.v X cx) (hb.v X cx) (hs X.env)) fun D σ H q => by
  obtain ⟨π, σD, S, fl, S', er, sr, ev, kk⟩ := q
  unfold exC at ev
  obtain ⟨v, S1, e1, e2⟩ := bind_ok ev
  obtain ⟨σ1, S2, e3, e4⟩ := bind_ok e2
  cases e4
  unfold asT at e3
  obtain ⟨y, S3, e5, e6⟩ := bind_ok e3
  cases y with
  | loc n =>
    dsimp only at e6
    split at e6
    · rename_i cc fs hS
      split at e6
      · rename_i hz
        cases e6
        refine ⟨π, σD, S, v, S1, er, sr, e1, fun v1 π1 H1 l1 r1 q1 => ⟨π1, σD, S1, _, S3, ERel.le sr l1 er, r1, e5, fun v2 π2 H2 l2 r2 q2 => ?_⟩⟩
        obtain ⟨p, rfl, hp⟩ := rep_loc q2
        obtain ⟨CA, dx, ws, h0, h1, h2, h3⟩ := r2.at_ n _ p hS hp
        obtain ⟨c1, c2⟩ := cx.fct.at_ cc f hz.2 CA h0
        have rv := Rep.le r1 l2 _ _ q1
        have ls := Le.set r2 (u := HO.ins CA dx (putF f v1 ws)) hp
        obtain ⟨g1, g2⟩ := fld_put (f := f) rv h2 h3
        have e : ws.length = fs.length := by simpa using congrArg List.length h2
        exact ⟨p, CA, dx, ws, rfl, h1, c1, c2, by omega, kk _ _ ((l1.trans l2).trans ls) (r2.set hp ⟨CA, dx, _, h0, upd_same, g1, Reps.le r2 ls _ _ g2⟩) σ (ERel.le r2 ls (ERel.le r1 l2 (ERel.le sr l1 er)))⟩
      · cases e6
    · cases e6
  | _ => cases e6
theorem own_never {X : Cx} (cx : CxOk M k N sc X) : PassesOwn (model X.prog X.w) X.A X.env X.xe := by rw [cx.xe]; exact PassesOwn.never
/-- for -/
theorem ss_for {it : Expr} {it' : I} (hi : SI M k N sc tg it it') (hg : ST M k N sc tg t) (hb : SSs M k N sc W sts Cs1) (hs : ∀ env x, foldedSetIterable it env x = pure x) : SS M k N sc W (.For tg it sts [] pos) (.for t it' Cs1) := fun X cx => PSimp (ps_for (own_never cx) cx.calm (hi X cx) (hg X cx) (hb X cx) (hs X.env)) fun D σ H q => by
  obtain ⟨π, σD, S, fl, S', er, sr, ev, kk⟩ := q
  unfold exC at ev
  obtain ⟨⟨xs, g⟩, S1, e1, e2⟩ := bind_ok ev
  dsimp only at e2
  refine ⟨π, σD, S, xs, g, S1, er, sr, e1, fun π1 H1 l1 r1 J hJ => ?_⟩
  generalize hf : (fun (x : PV.D) (σ : En) (S : Sto) => (asT M t x σ S).bind fun σ1 S1 => exCs M W Cs1 σ1 S1) = f at e2
  refine ⟨fun i m σ' H' => m = xs.length - i ∧ i ≤ xs.length ∧ ∃ π2 σD2 S2, Le π1 H1 π2 H' ∧ SRel M.L X.K X.mg π2 H' S2 ∧ ERel M.L X.K X.mg π2 H' σD2 σ' ∧ forGo f g (xs.drop i) σD2 S2 = .ok fl S', ⟨_, rfl, Nat.zero_le _, π1, σD, S1, Le.refl _ _, r1, ERel.le sr l1 er, by rw [List.drop_zero]; exact e2⟩, ?_⟩
  rintro i m σ' H' ⟨rfl, hi, π2, σD2, S2, l2, r2, er2, ee⟩
  by_cases hlt : i < xs.length
  · have ex : xs[i]? = some xs[i] := List.getElem?_eq_getElem hlt
    rw [List.drop_eq_getElem_cons hlt] at ee
    unfold forGo at ee
    split at ee
    · rename_i hst
      obtain ⟨f2, S4, e5, e6⟩ := bind_ok ee
      obtain ⟨g1, g2⟩ := (hJ π2 H' S2 l2 r2 hst i).2 _ ex
      refine .inr ⟨g1, fun σ'' H'' => ∃ π5 σD5 S5, Le π1 H1 π5 H'' ∧ SRel M.L X.K X.mg π5 H'' S5 ∧ ERel M.L X.K X.mg π5 H'' σD5 σ'' ∧ forGo f g (xs.drop (i + 1)) σD5 S5 = .ok fl S', fun σ'' H'' h => ⟨_, by omega, rfl, hlt, h⟩, fun v H2 hy => ?_⟩
      obtain ⟨rv, ly, ry⟩ := g2 v H2 hy
      rw [← hf] at e5
      obtain ⟨σ1, S5, e7, e8⟩ := bind_ok e5
      refine ⟨π2, σD2, S2, _, σ1, S5, ERel.le r2 ly er2, ry, rv, e7, fun σ3 π3 H3 l3 r3 er3 _ => ⟨π3, σ1, S5, f2, S4, er3, r3, e8, fun π4 H4 l4 r4 => ?_⟩⟩
      have l14 := ((l2.trans ly).trans l3).trans l4
      cases f2 with
      | nx σ2 => exact fun σ4 er4 => ⟨π4, σ2, S4, l14, r4, er4, e6⟩
      | ct σ2 => exact fun σ4 er4 => ⟨π4, σ2, S4, l14, r4, er4, e6⟩
      | bk σ2 => cases e6; exact fun σ4 er4 => kk π4 H4 (l1.trans l14) r4 σ4 er4
      | ret d => cases e6; exact fun v4 q4 => kk π4 H4 (l1.trans l14) r4 v4 q4
    · cases ee
  · have e : i = xs.length := by omega
    subst e
    rw [List.drop_length] at ee
    unfold forGo at ee
    split at ee
    · rename_i hst
      cases ee
      exact .inl ⟨(hJ π2 H' _ l2 r2 hst _).1 (Nat.le_refl _), kk π2 H' (l1.trans l2) r2 σ' er2⟩
    · cases ee
/-- while -/
theorem ss_while (hc : SE M k N sc c c') (hb : SSs M k N sc W sts Cs1) : SS M k N sc W (.While c sts [] pos) (.while c' Cs1) := fun X cx => PSimp (ps_while (own_never cx) (hc.t X cx) (hb X cx)) fun D σ H q => by
  obtain ⟨π, σD, S, fl, S', er, sr, ev, kk⟩ := q
  unfold exC at ev
  refine ⟨fun m σ' H' => ∃ π2 σD2 S2, Le π H π2 H' ∧ SRel M.L X.K X.mg π2 H' S2 ∧ ERel M.L X.K X.mg π2 H' σD2 σ' ∧ whileGo (fun σ S => evE M c' σ S) (fun σ S => exCs M W Cs1 σ S) m σD2 S2 = .ok fl S', ⟨W, π, σD, S, Le.refl _ _, sr, er, ev⟩, ?_⟩
  rintro m σ' H' ⟨π2, σD2, S2, l2, r2, er2, ee⟩
  cases m with
  | zero => unfold whileGo at ee; cases ee
  | succ m =>
    unfold whileGo at ee
    obtain ⟨bb, S3, e1, e2⟩ := bind_ok ee
    cases bb with
    | bl b =>
      refine ⟨π2, σD2, S2, b, S3, er2, r2, e1, fun π3 H3 l3 r3 => ?_⟩
      cases b with
      | true =>
        rw [if_pos rfl]
        obtain ⟨f2, S4, e5, e6⟩ := bind_ok e2
        refine ⟨fun σ'' H'' => ∃ π5 σD5 S5, Le π H π5 H'' ∧ SRel M.L X.K X.mg π5 H'' S5 ∧ ERel M.L X.K X.mg π5 H'' σD5 σ'' ∧ whileGo (fun σ S => evE M c' σ S) (fun σ S => exCs M W Cs1 σ S) m σD5 S5 = .ok fl S', fun σ'' H'' h => ⟨m, Nat.lt_succ_self _, h⟩, π3, σD2, S3, f2, S4, ERel.le r2 l3 er2, r3, e5, fun π4 H4 l4 r4 => ?_⟩
        have l14 := (l2.trans l3).trans l4
        cases f2 with
        | nx σ2 => exact fun σ4 er4 => ⟨π4, σ2, S4, l14, r4, er4, e6⟩
        | ct σ2 => exact fun σ4 er4 => ⟨π4, σ2, S4, l14, r4, er4, e6⟩
        | bk σ2 => cases e6; exact fun σ4 er4 => kk π4 H4 l14 r4 σ4 er4
        | ret d => cases e6; exact fun v4 q4 => kk π4 H4 l14 r4 v4 q4
      | false =>
        rw [if_neg (by decide)]
        cases e2
        exact kk π3 H3 (l2.trans l3) r3 σ' (ERel.le r2 l3 er2)
    | _ => cases e2
end
end PV

/-! PV13: the rules in short, for what a program prints. -/
namespace PV.Q
open PySem PySem.Spec PyProof.Rows L2 PV
section
variable {M : Sem} {k : Nat} {N : List Str} {sc : SC} {a b c tg : Expr} {a' b' c' : E} {pos p0 p1 p2 p3 apos : Pos} {es : List Expr} {es' : Es} {x : Str} {t : T} {ts : Ts} {W : Nat} {st : Stmt} {sts sts2 : List Stmt} {C1 C2 : C} {Cs1 Cs2 : Cs}
theorem v (i : Nat) (hN : N[i]? = some x := by rfl) (hv : Vis sc.toScope x := by first | exact .inl (by decide +kernel) | exact .inr (.inl (by decide +kernel)) | exact .inr (.inr (by decide +kernel))) (hd : (x == ("__debug__" : Str)) = false := by decide +kernel) (hcd : (x == ("__classdict__" : Str)) = false := by decide +kernel) : SE M k N sc (.Name x pos) (.var i) := se_var hN hv hd hcd
theorem g (hg : sc.names.lookup x = some .globalImplicit := by decide +kernel) (hd : (x == ("__debug__" : Str)) = false := by decide +kernel) : SE M k N sc (.Name x pos) (.glob x) := se_glob hg hd
theorem ty (n : String) (hv : bootBuiltins x = some (.type n)) (hg : sc.names.lookup x = some .globalImplicit := by decide +kernel) (hb : blts.contains x = true := by decide +kernel) (hn : x ≠ "__name__" := by decide +kernel) (hd : (x == ("__debug__" : Str)) = false := by decide +kernel) : SE M k N sc (.Name x pos) (.lit (.ty n)) := se_bty hg hb hv hn hd
theorem i {i : Int} {j : Nat} : SE M k N sc (.Constant (.int i) j pos) (.lit (.int i)) := se_int
theorem bl {b : Bool} {j : Nat} : SE M k N sc (.Constant (.bool b) j pos) (.lit (.bl b)) := se_bl
theorem n {j : Nat} : SE M k N sc (.Constant .none j pos) (.lit .non) := se_non
theorem s {x : Str} {j : Nat} : SE M k N sc (.Constant (.str x) j pos) (.lit (.str x)) := se_str
theorem c0 : SEs M k N sc [] .nil := sa_nil
theorem c1 (ha : SE M k N sc a a') (hs : SEs M k N sc es es') (h : NotStar a := by intro _ _; rfl) : SEs M k N sc (a :: es) (.cons a' es') := sa_cons ha hs h
theorem fld {f : Str} (ha : SE M k N sc a a') (hb : ∀ env, attributeBase a f env (eval a env) = eval a env := by intro _; rfl) : SE M k N sc (.Attribute a f pos) (.fld a' f) := se_fld ha hb
theorem idx (ha : SE M k N sc a a') (hb : SE M k N sc b b') (hs : PlainIx b := by intro _ _; rfl) (hn : NoSl b := by first | trivial | (intro _ _; rfl) | exact fun _ _ _ _ h => nomatch h) : SE M k N sc (.Subscript a b pos) (.idx a' b') := se_idx ha hb hs hn
section
variable (hs : SEs M k N sc (a :: es) es') (hg : sc.names.lookup x = some .globalImplicit := by decide +kernel) (hdb : (x == ("__debug__" : Str)) = false := by decide +kernel) (hst : NotStar a := by intro _ _; rfl) (hpl : PlainArgs es := by intro _ _; rfl)
theorem call (hs : SEs M k N sc (a :: es) es') (hg : sc.names.lookup x = some .globalImplicit := by decide +kernel) (hdb : (x == ("__debug__" : Str)) = false := by decide +kernel) (hst : NotStar a := by intro _ _; rfl) (hpl : PlainArgs es := by intro _ _; rfl) : SE M k N sc (.Call (.Name x p0) (a :: es) [] pos) (.call x es') := se_call hs hg hdb hst hpl
theorem make (hs : SEs M k N sc (a :: es) es') (hg : sc.names.lookup x = some .globalImplicit := by decide +kernel) (hdb : (x == ("__debug__" : Str)) = false := by decide +kernel) (hst : NotStar a := by intro _ _; rfl) (hpl : PlainArgs es := by intro _ _; rfl) : SE M k N sc (.Call (.Name x p0) (a :: es) [] pos) (.make x es') := se_make hs hg hdb hst hpl
theorem callv (i : Nat) (hs : SEs M k N sc (a :: es) es') (hN : N[i]? = some x := by rfl) (hv : Vis sc.toScope x := by first | exact .inl (by decide +kernel) | exact .inr (.inl (by decide +kernel)) | exact .inr (.inr (by decide +kernel))) (hdb : (x == ("__debug__" : Str)) = false := by decide +kernel) (hcd : (x == ("__classdict__" : Str)) = false := by decide +kernel) (hst : NotStar a := by intro _ _; rfl) (hpl : PlainArgs es := by intro _ _; rfl) : SE M k N sc (.Call (.Name x p0) (a :: es) [] pos) (.callv i es') := se_callv hs hN hv hdb hcd hst hpl
end
theorem call0 (hg : sc.names.lookup x = some .globalImplicit := by decide +kernel) (hdb : (x == ("__debug__" : Str)) = false := by decide +kernel) : SE M k N sc (.Call (.Name x p0) [] [] pos) (.call x .nil) := se_call0 hg hdb
theorem make0 (hg : sc.names.lookup x = some .globalImplicit := by decide +kernel) (hdb : (x == ("__debug__" : Str)) = false := by decide +kernel) : SE M k N sc (.Call (.Name x p0) [] [] pos) (.make x .nil) := se_make0 hg hdb
theorem makeK {kws : List Keyword} {ks : List Str} {perm : List Nat} (hs : SKs M k N sc kws ks es') (hp : M.perm x ks = some perm := by rfl) (hg : sc.names.lookup x = some .globalImplicit := by decide +kernel) (hdb : (x == ("__debug__" : Str)) = false := by decide +kernel) : SE M k N sc (.Call (.Name x p0) [] kws pos) (.makeK x es' ks.length perm) := se_makeK hs hg hdb hp
theorem lam (i : Nat) {f : Str} {params : Arguments} {body : Expr} {scope : Scope} (hh : M.here = some f := by rfl) (ht : sc.top = true := by rfl) (hs : M.L.src[i]? = some (f ++ ".<locals>." ++ "<lambda>", params, body, scope) := by rfl) (hdef : ∀ env, defaultsOf params env = ([], []) := by intro _; rfl) (hfree : ∀ y ∈ scope.names, y.2 ≠ .free := by decide +kernel) : SE M k N sc (.Lambda params body scope pos) (.lam i) := se_lam hh ht hs hdef hfree
section
variable {p : Prim}
theorem len (hs : SEs M k N sc (a :: es) es') (hg : sc.names.lookup ("len" : Str) = some .globalImplicit := by decide +kernel) (hst : NotStar a := by intro _ _; rfl) (hpl : PlainArgs es := by intro _ _; rfl) : SE M k N sc (.Call (.Name "len" p0) (a :: es) [] pos) (.prim .len es') := se_callB hs hg (by decide) boot_len (by decide) (by decide) hst hpl (fun X cx => call_len) pr_len
theorem isi (hs : SEs M k N sc (a :: es) es') (hg : sc.names.lookup ("isinstance" : Str) = some .globalImplicit := by decide +kernel) (hst : NotStar a := by intro _ _; rfl) (hpl : PlainArgs es := by intro _ _; rfl) : SE M k N sc (.Call (.Name "isinstance" p0) (a :: es) [] pos) (.prim .isi es') := se_callB hs hg (by decide) (by first | exact boot_isinstance | kernel_rfl) (by decide) (by decide) hst hpl (fun X cx => call_isi.or call_isiA) pr_isi
theorem repr (hs : SEs M k N sc (a :: es) es') (hr : M.rp = true := by rfl) (hg : sc.names.lookup ("repr" : Str) = some .globalImplicit := by decide +kernel) (hst : NotStar a := by intro _ _; rfl) (hpl : PlainArgs es := by intro _ _; rfl) : SE M k N sc (.Call (.Name "repr" p0) (a :: es) [] pos) (.prim .repr es') := se_callB hs hg (by decide) (by first | exact boot_repr | kernel_rfl) (by decide) (by decide) hst hpl (fun X cx => call_reprD (cx.gd hr) cx.room.units) pr_repr
theorem any (hs : SEs M k N sc (a :: es) es') (hg : sc.names.lookup ("any" : Str) = some .globalImplicit := by decide +kernel) (hst : NotStar a := by intro _ _; rfl) (hpl : PlainArgs es := by intro _ _; rfl) : SE M k N sc (.Call (.Name "any" p0) (a :: es) [] pos) (.prim .any es') := se_callB hs hg (by decide) (by first | exact boot_any | kernel_rfl) (by decide) (by decide) hst hpl (fun X cx => cr_any cx.calm) pr_any
theorem all (hs : SEs M k N sc (a :: es) es') (hg : sc.names.lookup ("all" : Str) = some .globalImplicit := by decide +kernel) (hst : NotStar a := by intro _ _; rfl) (hpl : PlainArgs es := by intro _ _; rfl) : SE M k N sc (.Call (.Name "all" p0) (a :: es) [] pos) (.prim .all es') := se_callB hs hg (by decide) (by first | exact boot_all | kernel_rfl) (by decide) (by decide) hst hpl (fun X cx => cr_all cx.calm) pr_all
theorem abs (hs : SEs M k N sc (a :: es) es') (hg : sc.names.lookup ("abs" : Str) = some .globalImplicit := by decide +kernel) (hst : NotStar a := by intro _ _; rfl) (hpl : PlainArgs es := by intro _ _; rfl) : SE M k N sc (.Call (.Name "abs" p0) (a :: es) [] pos) (.prim .abs es') := se_callB hs hg (by decide) (by first | exact boot_abs | kernel_rfl) (by decide) (by decide) hst hpl (fun X cx => call_abs) pr_abs
theorem max2 (hs : SEs M k N sc (a :: es) es') (hg : sc.names.lookup ("max" : Str) = some .globalImplicit := by decide +kernel) (hst : NotStar a := by intro _ _; rfl) (hpl : PlainArgs es := by intro _ _; rfl) : SE M k N sc (.Call (.Name "max" p0) (a :: es) [] pos) (.prim .max2 es') := se_callB hs hg (by decide) (by first | exact boot_max | kernel_rfl) (by decide) (by decide) hst hpl (fun X cx => call_max2 cx.calm) pr_max
theorem tuple (hs : SEs M k N sc (a :: es) es') (hg : sc.names.lookup ("tuple" : Str) = some .globalImplicit := by decide +kernel) (hst : NotStar a := by intro _ _; rfl) (hpl : PlainArgs es := by intro _ _; rfl) : SE M k N sc (.Call (.Name "tuple" p0) (a :: es) [] pos) (.prim .tuple es') := se_callTy hs hg (by decide) (by first | exact boot_tuple | kernel_rfl) (by decide) (by decide) hst hpl (fun X cx => call_tuple_of) pr_tuple
theorem list (hs : SEs M k N sc (a :: es) es') (hg : sc.names.lookup ("list" : Str) = some .globalImplicit := by decide +kernel) (hst : NotStar a := by intro _ _; rfl) (hpl : PlainArgs es := by intro _ _; rfl) : SE M k N sc (.Call (.Name "list" p0) (a :: es) [] pos) (.prim .list es') := se_callTy hs hg (by decide) (by first | exact boot_list | kernel_rfl) (by decide) (by decide) hst hpl (fun X cx => call_list_of) pr_list
theorem int (hs : SEs M k N sc (a :: es) es') (hg : sc.names.lookup ("int" : Str) = some .globalImplicit := by decide +kernel) (hst : NotStar a := by intro _ _; rfl) (hpl : PlainArgs es := by intro _ _; rfl) : SE M k N sc (.Call (.Name "int" p0) (a :: es) [] pos) (.prim .int es') := se_callTy hs hg (by decide) (by first | exact boot_int | kernel_rfl) (by decide) (by decide) hst hpl (fun X cx => call_int1) pr_int
theorem bool (hs : SEs M k N sc (a :: es) es') (hg : sc.names.lookup ("bool" : Str) = some .globalImplicit := by decide +kernel) (hst : NotStar a := by intro _ _; rfl) (hpl : PlainArgs es := by intro _ _; rfl) : SE M k N sc (.Call (.Name "bool" p0) (a :: es) [] pos) (.prim .bool es') := se_callTy hs hg (by decide) (by first | exact boot_bool | kernel_rfl) (by decide) (by decide) hst hpl (fun X cx => call_bool1) pr_bool
end
theorem append (ha : SE M k N sc a a') (hs : SEs M k N sc (b :: es) es') (hb : ∀ env, attributeBase a "append" env (eval a env) = eval a env := by intro _; rfl)
    (hf : ∀ env, ((backTo pos (starEach (b :: es) env)).all (fun x => !x.1) && (backToKw pos (keywordEach [] env)).all (fun x => x.1.isSome)
      && decide ((b :: es).length + ([] : List Keyword).length + (if ([] : List Keyword).isEmpty then 0 else 1) < 30)) = true := by intro _; rfl)
    (hl : (apos.endLine == pos.line) = true := by rfl) (hst : NotStar b := by intro _ _; rfl) (hpl : PlainArgs es := by intro _ _; rfl) : SE M k N sc (.Call (.Attribute a "append" apos) (b :: es) [] pos) (.mth .append a' es') := se_append ha hs hb hf hl hst hpl
theorem popAt (ha : SE M k N sc a a') (hs : SEs M k N sc (b :: es) es') (hb : ∀ env, attributeBase a "pop" env (eval a env) = eval a env := by intro _; rfl)
    (hf : ∀ env, ((backTo pos (starEach (b :: es) env)).all (fun x => !x.1) && (backToKw pos (keywordEach [] env)).all (fun x => x.1.isSome)
      && decide ((b :: es).length + ([] : List Keyword).length + (if ([] : List Keyword).isEmpty then 0 else 1) < 30)) = true := by intro _; rfl)
    (hl : (apos.endLine == pos.line) = true := by rfl) (hst : NotStar b := by intro _ _; rfl) (hpl : PlainArgs es := by intro _ _; rfl) : SE M k N sc (.Call (.Attribute a "pop" apos) (b :: es) [] pos) (.mth .popAt a' es') := se_popAt ha hs hb hf hl hst hpl
theorem tv (i : Nat) (hN : N[i]? = some x := by rfl) (hx : Sto1 sc x := by first | exact .inl (by decide +kernel) | exact .inr ⟨rfl, by decide +kernel⟩) : ST M k N sc (.Name x pos) (.var i) := st_var hN hx
theorem t1 (ha : ST M k N sc a t) (hs : STs M k N sc es ts) (h : NotStarT a := by intro _ _; rfl) : STs M k N sc (a :: es) (.cons t ts) := sts_cons ha hs h
theorem tt {kk : Nat} (hs : STs M k N sc es ts) (hn : ∀ env, (assignEach es env).length = es.length ∧ (assignEach es env).findIdx? (·.1) = none := by intro _; exact ⟨rfl, rfl⟩) : ST M k N sc (.Tuple es kk pos) (.tup ts) := st_tup hs hn
theorem tsub (ha : SE M k N sc a a') (hb : SE M k N sc b b')
    (hasg : ∀ env v, assign (.Subscript a b pos) env v = (do
      let ov ← holding [v] (eval a env)
      let iv ← holding [v, ov] (eval b env)
      standAt pos
      holding [v, ov, iv] (setItem ov iv v)
      release [v, ov, iv] []) := by intro _ _; rfl) : ST M k N sc (.Subscript a b pos) (.sub a' b') := st_sub ha hb hasg
theorem r1 (hs : SEs M k N sc [a] es') (hg : sc.names.lookup ("range" : Str) = some .globalImplicit := by decide +kernel) (hst : NotStar a := by intro _ _; rfl) : SI M k N sc tg (.Call (.Name "range" p0) [a] [] pos) (.range1 es') := si_range1 hs hg hst
theorem r2 (hs : SEs M k N sc [a, b] es') (hg : sc.names.lookup ("range" : Str) = some .globalImplicit := by decide +kernel) (hst : NotStar a := by intro _ _; rfl) (hst2 : NotStar b := by intro _ _; rfl) : SI M k N sc tg (.Call (.Name "range" p0) [a, b] [] pos) (.range2 es') := si_range2 hs hg hst hst2
theorem lc (own : List (Str × Nat)) {elt it : Expr} {ifs : List Expr} {scope : Scope} {it' : I} {cond : Oe} {elt' : E} (hg : ST M k N (blkSC scope sc) tg t) (hi : SI M k N sc tg it it') (ht : SCd M k N (blkSC scope sc) ifs (cond)) (he : SE M k N (blkSC scope sc) elt elt') (ok : blkC N sc.toScope scope own = true := by decide +kernel)
    (hs : ∀ env x, foldedSetIterable it env x = pure x := by intro _ _; rfl) (hv : ∀ i ∈ t.vars, i ∈ own.map (·.2) := by decide +kernel) : SE M k N sc (.ListComp elt [⟨tg, it, ifs, 0⟩] scope pos) (.comp (own.map (·.2)) t it' cond elt') := se_lc hi (blkOk_by ok) hg ht he hs hv
theorem asg (ha : SE M k N sc a a') (hg : ST M k N sc tg t) (hs : ∀ env, swapsWithSole [tg] a pos.line env = pure false := by intro _; rfl) (hw : ∀ env, swappedStores [tg] a env = pure none := by intro _; rfl) (hn : NotStarT tg := by intro _ _; rfl) : SS M k N sc W (.Assign [tg] a pos) (.asg t a') := ss_asg ha hg hs hw hn
theorem asgLc (i : Nat) (own : List (Str × Nat)) {elt it : Expr} {ifs : List Expr} {scope : Scope} {it' : I} {cond : Oe} {elt' : E} (hg : ST M k N (blkSC scope sc) tg t) (hi : SI M k N sc tg it it') (ht : SCd M k N (blkSC scope sc) ifs (cond)) (he : SE M k N (blkSC scope sc) elt elt')
    (hN : N[i]? = some x := by rfl) (hx : sc.names.lookup x = some .local := by decide +kernel) (hk : sc.kind = .function := by rfl) (hl : (p0.line == p1.line) = true := by rfl)
    (ho : (scope.names.any fun (n, k) => n == x && (k == .local || k == .cell)) = false := by decide +kernel)
    (ok : blkC N sc.toScope scope own = true := by decide +kernel) (hs : ∀ env x, foldedSetIterable it env x = pure x := by intro _ _; rfl) (hv : ∀ i ∈ t.vars, i ∈ own.map (·.2) := by decide +kernel) :
    SS M k N sc W (.Assign [.Name x p0] (.ListComp elt [⟨tg, it, ifs, 0⟩] scope p1) pos) (.asg (.var i) (.comp (own.map (·.2)) t it' cond elt')) := ss_asgLc hN hx hk hl ho hi (blkOk_by ok) hg ht he hs hv
theorem afld {f : Str} (ha : SE M k N sc a a') (hb : SE M k N sc b b') (hs : ∀ env, swapsWith b (some (.Attribute a f p0)) pos.line env = pure false := by intro _; rfl) : SS M k N sc W (.Assign [.Attribute a f p0] b pos) (.asg (.fld a' f) b') := ss_fld ha hb hs
theorem for_ {it : Expr} {it' : I} (hi : SI M k N sc tg it it') (hg : ST M k N sc tg t) (hb : SSs M k N sc W sts Cs1) (hs : ∀ env x, foldedSetIterable it env x = pure x := by intro _ _; rfl) : SS M k N sc W (.For tg it sts [] pos) (.for t it' Cs1) := ss_for hi hg hb hs
theorem expr (ha : SE M k N sc a a') (hs : ∀ env, swapsWith a none pos.line env = pure false := by intro _; rfl) : SS M k N sc W (.Expr a pos) (.expr a') := ss_expr ha hs
theorem dict {keys : List (Option Expr)} {vals : List Expr} {ks : List Str} (hs : SPs M k N sc keys vals ks es') (h0 : ks ≠ [] := by intro h; cases h) (h15 : ks.length ≤ 15 := by decide) : SE M k N sc (.Dict keys vals pos) (.dict ks es') := se_dict hs h0 h15
end
end PV.Q

/-! PV14: defs, classes, lambdas keep their promises. -/
namespace PV
open PySem PySem.Spec PyProof.Rows L2
def startD (n : Nat) (ds : List D) : En := ds.map some ++ List.replicate (n - ds.length) none
/-- a def's body, from its arguments to its answer -/
def runC (M : Sem) (n : Nat) (c : Cs) (ds : List D) (S : Sto) : Res D := match exCs M 0 c (startD n ds) S with
  | .ok (.ret d) S' => .ok d S'
  | .ok (.nx _) S' => .ok .non S'
  | _ => .bad
theorem erel_start {L : Lx} {K : PySem.W.Frag} {mg : Str → Option Value} {π : List Addr} {H : Hp} {N : List Str} : ∀ {ds : List D} {vs : List V}, Reps L K mg π H ds vs → ERel L K mg π H (startD N.length ds) (L2.start N vs) := by
  intro ds vs h
  have hl := h.length
  refine ⟨by simp [startD, L2.start, hl], fun i d hd => ?_⟩
  unfold startD at hd
  unfold L2.start
  by_cases hi : i < ds.length
  · rw [List.getElem?_append_left (by simpa using hi), List.getElem?_map] at hd
    cases e : ds[i]? with
    | none => rw [e] at hd; cases hd
    | some d' =>
      rw [e] at hd
      cases hd
      obtain ⟨v, hv, r⟩ := h.get e
      exact ⟨v, by rw [List.getElem?_append_left (by simpa [← hl] using hi), List.getElem?_map, hv]; rfl, r⟩
  · rw [List.getElem?_append_right (by simpa using hi), List.getElem?_replicate] at hd
    split at hd <;> cases hd
section
variable {M : Sem} {k : Nat} {P : Program} {w : World} {K : PySem.W.Frag} {mg : Str → Option Value} {base : Heap} {x qual : Str} {params : Arguments} {body : List Stmt} {scope : Scope} {dvs : List V} {kws : List (Str × V)} {f : Addr} {fd : FuncData} {N ps : List Str} {c : Cs}
/-- what a def that makes lambdas must have -/
def LmOk (L : Lx) (h : Option Str) (K : PySem.W.Frag) (mg : Str → Option Value) (base : Heap) (qual : Str) (f : Addr) : Prop := ∀ g, h = some g → g = qual ∧ ∃ c P, LamX.TabB base mg c P ∧ tabs L K mg = [(P, g ++ ".<locals>." ++ "<lambda>")] ∧ ∀ oc od fd' osl, K.lookup f = some ⟨oc, od, .func fd', osl⟩ → fd'.code = .ref c
theorem run_code (F : FunD K x qual params body scope dvs kws f fd) (S : FnScope N ps scope) (hc : SSs M k N ⟨scope, true⟩ 0 body c) (fct : Fct M k P w K mg base) {A : Around} (hgd : M.rp = true → A.guards = some []) (hlm : LmOk M.L M.here K mg base qual f)
    {outer : List Env} {s : Shared} {H : Hp} {args : Args} {us : List Value} {vs : List V} {Q : VK} {E : XK} (hr : Room (k + 1) A) (e0 : Env0 P w K mg base A outer s H) (hb : BindsTo s fd args (ps.zip us)) (r : Vals vs us)
    {π : List Addr} {So : Sto} {ds : List D} {d : D} {So' : Sto} (sr : SRel M.L K mg π H So) (rs : Reps M.L K mg π H ds vs) (hl : ds.length = ps.length) (ev : runC M N.length c ds So = .ok d So')
    (kk : ∀ v π' H', Le π H π' H' → SRel M.L K mg π' H' So' → Rep M.L K mg π' H' d v → Q v H') : codeAny (model P w) A (.call (.ref f) args) (CR CX0 outer P w H s Q E) s := by
  obtain ⟨oc, od, dV, kV, doc, pm, an, cdv, ct, osl, rfl, lk, hcd, _, _⟩ := F.ex
  refine LamX.run_ofS lk hcd S hr e0 hb r (by rw [← rs.length]; exact hl) fun hr' => ⟨tRun _ M (exCs M 0 c), PSs.nox (hc _ ?_), ?_⟩
  · exact ⟨rfl, S.nd, rfl, rfl, rfl, hr', fun _ _ => rfl, hgd, fun g hg _ => by
      obtain ⟨e, c', P', h1, h2, h3⟩ := hlm g hg
      exact ⟨c', P', h3 _ _ _ _ lk, by rw [e]; rfl, h1, h2⟩, fct⟩
  · unfold runC at ev
    cases e1 : exCs M 0 c (startD N.length ds) So with
    | bad => rw [e1] at ev; cases ev
    | ok fl S1 =>
      rw [e1] at ev
      refine ⟨π, _, So, fl, S1, erel_start rs, sr, e1, fun π' H' l r' => ?_⟩
      cases fl with
      | nx σ => cases ev; exact fun σ' _ => kk _ π' H' l r' rfl
      | ret d' => cases ev; exact fun v q => kk v π' H' l r' q
      | bk σ => cases ev
      | ct σ => cases ev
def callC (M : Sem) (n m : Nat) (c : Cs) (ds : List D) (S : Sto) : Res D := if ds.length = m then runC M n c ds S else .bad
theorem fnok_of (F : FunD K x qual params body scope dvs kws f fd) (S : FnScope N ps scope) (hc : SSs M k N ⟨scope, true⟩ 0 body c) (fct : Fct M k P w K mg base) (hgd : M.rp = false) (hlm : LmOk M.L M.here K mg base qual f) :
    FnOk P w K mg base CX0 (k + 1) f fd ps (spF M.L (callC M N.length ps.length c) K mg) := by
  refine ⟨fun vs H Q E h => ?_, fun A outer s H args us vs Q E hr e0 hb r h => ?_⟩
  · obtain ⟨π, So, ds, d, So', sr, rs, ev, kk⟩ := h
    unfold callC at ev
    split at ev
    · rename_i hl
      rw [← rs.length]; exact hl
    · cases ev
  · obtain ⟨π, So, ds, d, So', sr, rs, ev, kk⟩ := h
    unfold callC at ev
    split at ev
    · rename_i hl
      exact run_code F S hc fct (fun z => by rw [hgd] at z; cases z) hlm hr e0 hb r sr rs hl ev kk
    · cases ev
/-- an instance is made and its __init__ runs -/
def makeC (init : List D → Sto → Res D) (cn : Str) (dd : List D) (ds : List D) (S : Sto) : Res D := match init (.loc S.length :: (ds ++ dd)) (S ++ [.ins cn []]) with
  | .ok .non S' => .ok (.loc S.length) S'
  | _ => .bad
variable {L : Lx} {init : List D → Sto → Res D} {cn : Str} {dd : List D} {CA : Addr}
theorem made_sp {π : List Addr} {H : Hp} {S : Sto} {xa dx : Addr} {ds : List D} {vs : List V} {d : D} {S' : Sto} {Q : VK} (hm : mg cn = some (.ref CA)) (sr : SRel L K mg π H S) (rs : Reps L K mg π H ds vs) (hx : H xa = none) (hd : H dx = none) (hne : dx ≠ xa) (ev : makeC init cn [] ds S = .ok d S')
    (kk : ∀ v π' H', Le π H π' H' → SRel L K mg π' H' S' → Rep L K mg π' H' d v → Q v H') : spF L init K mg (.ref xa :: vs) (upd (upd H dx (.own xa)) xa (.ins CA dx [])) (fun v H2 => v = .non ∧ Q (.ref xa) H2) E0 := by
  unfold makeC at ev
  rw [List.append_nil] at ev
  cases e1 : init (.loc S.length :: ds) (S ++ [.ins cn []]) with
  | bad => rw [e1] at ev; cases ev
  | ok d1 S1 =>
    rw [e1] at ev
    cases d1 with
    | non =>
      cases ev
      have l0 : Le π H π (upd H dx (.own xa)) := Le.back (Le.new (u := .own xa) hd)
      have r0 : SRel L K mg π (upd H dx (.own xa)) S := sr.le l0 (fun a ha => upd_ne fun e => sr.mem ha (e ▸ hd)) (tabs_new sr.tb hd)
      have hx0 : upd H dx (.own xa) xa = none := by rw [upd_ne (Ne.symm hne)]; exact hx
      have l1 : Le π (upd H dx (.own xa)) (π ++ [xa]) (upd (upd H dx (.own xa)) xa (.ins CA dx [])) := Le.new hx0
      have r1 := r0.new (o := .ins cn []) (u := .ins CA dx []) hx0 ⟨CA, dx, [], hm, upd_same, rfl, rfl⟩
      have hat : (π ++ [xa])[S.length]? = some xa := by
        rw [← sr.len, List.getElem?_append_right (Nat.le_refl _)]
        simp
      refine ⟨π ++ [xa], S ++ [.ins cn []], .loc S.length :: ds, .non, S', r1, ⟨.ref xa, vs, rfl, ⟨xa, rfl, hat⟩, Reps.le r0 l1 _ _ (Reps.le sr l0 _ _ rs)⟩, e1, fun v π' H' l r q => ⟨q, ?_⟩⟩
      exact kk _ π' H' ((l0.trans l1).trans l) r ⟨xa, rfl, l.get hat⟩
    | _ => cases ev
theorem mkf_of {fi : Addr} {ps : List Str} {dus : List Value} (hm : mg cn = some (.ref CA)) (mk : Mk K CA fi) (F : FnOk P w K mg base CX0 k fi fd ps (spF L init K mg)) (hb : Binds K fd ps dus) (hd : Vals dvs dus) (hdd : ∀ π H, Reps L K mg π H dd dvs) : MkF L (makeC init cn dd) (k + 1) P w K mg base CA := ⟨by
  intro X pins σ H s Q us vs π S ds d S' e1 e2 e3 e4 e5 hr I r sr rs ev kk
  subst e1 e2 e3 e4 e5
  refine run_make mk F hr hb hd (E := E0) (fun _ _ _ _ _ _ _ h => h.elim) I r fun xa dx hx hdx hne => ?_
  refine made_sp (ds := ds ++ dd) hm sr (rs.append (hdd π H)) hx hdx hne ?_ kk
  unfold makeC at ev ⊢
  rw [List.append_nil]
  exact ev⟩
/-- .. by keywords -/
theorem mkk_of {fi : Addr} {ps ks : List Str} {perm : List Nat} {g : List Value → List Value → List Value} (hm : mg cn = some (.ref CA)) (mk : Mk K CA fi) (F : FnOk P w K mg base CX0 k fi fd ps (spF L init K mg)) (hb : KBn K fd ps 1 ks g (fun vs zs => vs ++ ((perm.filterMap fun i => zs[i]?) ++ dvs)))
    (hdd : ∀ π H, Reps L K mg π H dd dvs) : MkK L (makeC init cn dd) (k + 1) P w K mg base CA ks perm := ⟨by
  intro X pins σ H s Q us vs π S ds d S' e1 e2 e3 e4 e5 hr I r sr rs hl ev kk
  subst e1 e2 e3 e4 e5
  refine run_makeK (us := []) (vs := []) (n := 0) mk F hr hb (E := E0) (fun _ _ _ _ _ _ _ h => h.elim) I .nil r rfl (by rw [← rs.length]; exact hl) fun xa dx hx hdx hne => ?_
  have rp : Reps L X.K X.mg π H (perm.filterMap fun i => ds[i]?) (perm.filterMap fun i => vs[i]?) := by
    clear hb ev
    induction perm with
    | nil => exact rfl
    | cons i perm ih =>
      rw [List.filterMap_cons, List.filterMap_cons]
      cases e : ds[i]? with
      | none =>
        have : vs[i]? = none := by
          rw [List.getElem?_eq_none_iff] at e ⊢
          rw [← rs.length]; exact e
        rw [this]
        exact ih
      | some y =>
        obtain ⟨v, hv, rv⟩ := rs.get e
        rw [hv]
        exact ⟨v, _, rfl, rv, ih⟩
  refine made_sp (ds := (perm.filterMap fun i => ds[i]?) ++ dd) hm sr (rp.append (hdd π H)) hx hdx hne ?_ kk
  unfold makeC at ev ⊢
  rw [List.append_nil]
  exact ev⟩
/-- keywords alone, no defaults -/
theorem kbn0 {ps ks : List Str} {perm : List Nat} (F : FunD K x qual params body scope [] kws f fd) (h : ∀ (kV doc pm : Value) (an : Option Addr) (cdv ct u : Value) (ws : List Value), ws.length = ks.length → bindArgs (PySem.W.fnOf x qual params body scope .none kV doc pm an cdv ct) ⟨[u], ks.zip ws⟩ = pure (ps.zip (u :: (perm.filterMap fun i => ws[i]?)))) :
    KBn K fd ps 1 ks (fun us ws => us ++ ((perm.filterMap fun i => ws[i]?) ++ [])) (fun vs zs => vs ++ ((perm.filterMap fun i => zs[i]?) ++ [])) := by
  obtain ⟨oc, od, dV, kV, doc, pm, an, cdv, ct, osl, rfl, lk, hcd, hD, hK⟩ := F.ex
  rcases hD with ⟨_, rfl⟩ | ⟨e, _⟩
  · refine ⟨fun s us ws _ h1 h2 => ?_, fun r1 r2 => ?_⟩
    · match us, h1 with
      | [u], _ =>
        refine .of_eq ?_
        rw [h kV doc pm an cdv ct u ws h2, List.append_nil]
        rfl
    · rw [List.append_nil, List.append_nil]
      refine r1.append ?_
      rename_i vs us zs ws
      clear h
      induction perm with
      | nil => exact .nil
      | cons i perm ih =>
        rw [List.filterMap_cons, List.filterMap_cons]
        cases e : zs[i]? with
        | none => rw [r2.none_of e]; exact ih
        | some v =>
          obtain ⟨u, hu, ru⟩ := r2.get e
          rw [hu]
          exact .cons ru ih
  · exact absurd rfl e
/-- a lambda's call -/
def lamC (M : Sem) (n m : Nat) (e : E) (ds : List D) (S : Sto) : Res D := if ds.length = m then evE M e (startD n ds) S else .bad
theorem lmf_of {i : Nat} {q : Str} {p : Arguments} {b : Expr} {e : E} (hsrc : M.L.src[i]? = some (q, p, b, scope)) (S : FnScope N ps scope) (hb : SE M k N ⟨scope, true⟩ b e) (fct : Fct M k P w K mg base) (hgd : M.rp = false) (hh : M.here = none)
    (hbind : ∀ (pm cv ctv : Value) (us : List Value), us.length = ps.length → bindArgs (PySem.W.kla_fn "<lambda>" q p b scope [] pm cv ctv) ⟨us, []⟩ = pure (ps.zip us)) : LmF M.L (lamC M N.length ps.length e) (k + 1) P w K mg base i := ⟨by
  intro X pins σ H s Q us vs π So ds d So' a e1 e2 e3 e4 e5 hr I rl r sr rs ev kk
  subst e1 e2 e3 e4 e5
  unfold lamC at ev
  split at ev
  · rename_i hl
    obtain ⟨a', q', p', b', sc', pm, c', ctv, ea, h1, h2, h3, _⟩ := lam_at I rl
    cases ea
    rw [hsrc] at h1
    cases h1
    have hlen : vs.length = ps.length := by rw [← rs.length]; exact hl
    have hkind : ∀ y ∈ ps.zip us, scope.names.lookup y.1 = some .local ∨ (scope.names.lookup y.1 = some .cell ∧ ((cellsFrom (s.heap.objs.size + 1) scope.names []).lookup y.1).isSome = true) := fun ⟨n, v⟩ hy => by
      rcases S.par n (List.of_mem_zip hy).1 with q | q
      · exact .inl q
      · exact .inr ⟨q, PySem.W.cellsFrom_some _ _ _ (.inl q)⟩
    have lim : s.heap.NoLimit := I.nolimit
    have rc : codeAny (model X.prog X.w) X.A (.call (.ref a) ⟨us, []⟩) (CR CX0 X.stack X.prog X.w H s Q E0) s := by
      refine PySem.W.kla_callFunE hr.depth h2 rfl S.co S.gen rfl h3 ?_
      rw [hbind _ _ _ us (by rw [← r.length]; exact hlen)]
      refine wpAny_pure (wpAny_newFunctionEnv_cells S.kind hkind fun env he s1 x => ?_)
      subst he
      refine ⟨lim.keeps x.toInCall.keep, ?_⟩
      have J : Inv (cxOf CX0 X.prog X.w X.K X.mg X.base N q scope a (.ref c') X.A X.stack s H E0) [] (L2.start N vs) H s1 := inv_start S hr.hd I.env0 hlen r x
      have cx : CxOk M k N ⟨scope, true⟩ (cxOf CX0 X.prog X.w X.K X.mg X.base N q scope a (.ref c') X.A X.stack s H E0).nox := ⟨rfl, S.nd, rfl, rfl, rfl, hr.deeper _, fun _ _ => rfl, fun z => (by rw [hgd] at z; cases z), fun g hg => (by rw [hh] at hg; cases hg), fct⟩
      refine PySem.W.kla_codeExpr (wpAny_mono ((PE.nox (hb.v _ cx)).run [] s1 _ H Q J ⟨π, _, So, d, So', erel_start rs, sr, ev, kk⟩) (fun v s' hq => ?_) fun e s' hq => hq)
      obtain ⟨w', H', J', rv, qq⟩ := hq
      exact ⟨w', H', J'.os, J'.bare, J'.base, J'.hok, rv, qq⟩
    refine wpAny_call (codeAny_mono rc fun r s' hq => ?_)
    cases r with
    | error e => exact (show False from hq).elim
    | ok fl =>
      cases fl with
      | ret u => exact I.after hq
      | next => exact False.elim hq
      | brk => exact False.elim hq
      | cont => exact False.elim hq
  · cases ev⟩
end
end PV

/-! PV15: a Hook that tells the written part of the heap, without lists and tables of code objects; the table of one def. -/
namespace PV
open PySem PySem.Spec PyProof.Rows L2
/-- neither a list nor a table -/
def plainO (o : Obj) : Bool := match o.cls with
  | .none => false
  | .type t => !(t == "list")
  | _ => true
def frP (g : Addr → Option Obj) (as : List Addr) : PySem.W.Frag := (He.frG g as).filter fun p => plainO p.2
theorem mem_of_lookup' {a : Addr} {o : Obj} : ∀ {K : PySem.W.Frag}, K.lookup a = some o → (a, o) ∈ K
  | [], h => by cases h
  | (b, u) :: K, h => by
    rw [List.lookup_cons] at h
    cases q : a == b with
    | true =>
      rw [q] at h
      cases h
      rw [beq_iff_eq.mp q]
      exact List.mem_cons_self ..
    | false =>
      rw [q] at h
      exact List.mem_cons_of_mem _ (mem_of_lookup' h)
theorem frP_at {g : Addr → Option Obj} {as : List Addr} {a : Addr} {o : Obj} (h : (frP g as).lookup a = some o) : g a = some o ∧ plainO o = true := by
  have hm := mem_of_lookup' h
  unfold frP at hm
  obtain ⟨h1, h2⟩ := List.mem_filter.mp hm
  refine ⟨?_, h2⟩
  unfold He.frG at h1
  obtain ⟨b, _, hb⟩ := List.mem_filterMap.mp h1
  cases e : g b with
  | none => rw [e] at hb; cases hb
  | some u => rw [e] at hb; cases hb; exact e
/-- a def's code object and its table -/
def tabAt (K : PySem.W.Frag) (f : Str) : Option (Addr × Addr) := match K.lookup (He.ga K f) with
  | some ⟨_, _, .func fd, _⟩ => (match fd.code with
    | .ref c => (match K.lookup c with
      | some ⟨_, _, .fields us, _⟩ => (match us[(11 : Nat)]? with
        | some (Value.ref P) => some (c, P)
        | _ => none)
      | _ => none)
    | _ => none)
  | _ => none
def emptyTab : Option Obj → Bool
  | some ⟨.none, none, .fields us, sl⟩ => us.size == 0 && sl.size == 0
  | _ => false
theorem emptyTab_ok {o : Option Obj} (h : emptyTab o = true) : o = some { cls := .none, data := .fields #[] } := by
  unfold emptyTab at h
  split at h
  · rename_i us sl
    rw [Bool.and_eq_true, beq_iff_eq, beq_iff_eq] at h
    rw [Array.eq_empty_of_size_eq_zero h.1, Array.eq_empty_of_size_eq_zero h.2]
  · cases h
def codeB (o : Option Obj) (c P : Addr) : Bool := match o with
  | some ⟨.type t, _, .fields vs, _⟩ => t == "code" && (match vs[(11 : Nat)]? with | some (Value.ref p) => p == P | _ => false) && (match vs.getD 18 .none with | .str _ _ => true | _ => false) && (match vs.getD 7 .none with | .int _ _ => true | _ => false) &&
      (match vs.getD 9 .none with | .bool _ => true | _ => false) && (match vs.getD 10 .none with | .int _ _ => true | _ => false) && !(c == P)
  | _ => false
theorem codeB_ok {h : Heap} {c P : Addr} (e : codeB (h.get? c) c P = true) : PySem.W.CodeHd h c P := by
  unfold codeB at e
  split at e
  · rename_i t dd vs sl ho
    simp only [Bool.and_eq_true, Bool.not_eq_true', beq_iff_eq, beq_eq_false_iff_ne] at e
    obtain ⟨⟨⟨⟨⟨⟨h1, h2⟩, h3⟩, h4⟩, h5⟩, h6⟩, h7⟩ := e
    have g11 : vs[(11 : Nat)]? = some (Value.ref P) := by
      split at h2
      · rename_i p hp
        have e : p = P := by simpa using h2
        rw [hp, e]
      · cases h2
    have g11' : vs.getD 11 .none = .ref P := by
      rw [Array.getD_eq_getD_getElem?, g11]
      rfl
    split at h3
    · rename_i f tf e18
      split at h4
      · rename_i fl tg e7
        split at h5
        · rename_i inF e9
          split at h6
          · rename_i tx tt e10
            exact ⟨_, vs, f, tf, fl, tg, inF, tx, tt, ho, by rw [h1], rfl, g11, g11', e18, e7, e9, e10, h7⟩
          · cases h6
        · cases h5
      · cases h4
    · cases h3
  · cases e
/-- the table of the def f is empty and stands outside of the part -/
def tabB (g : Addr → Option Obj) (K : PySem.W.Frag) (f : Str) : Bool := match tabAt K f with
  | some (c, P) => emptyTab (g P) && codeB (g c) c P
  | none => false
abbrev AlP : Type := Bool × List He.FnW
/-- what is looked at: facts, defs, a check of one's own, tables -/
def obsP (n : Nat) (fa : List He.Fa) (fn : List He.DefD) (ex : PySem.W.Frag → Bool) (tb : List Str) (g : Addr → Option Obj) : AlP :=
  ((fa.all fun f => f.ok (frP g (He.asD g n))) && ((fn.all fun d => d.ok (frP g (He.asD g n))) && (ex (frP g (He.asD g n)) && tb.all fun f => tabB g (frP g (He.asD g n)) f)), fn.map fun d => He.fnW (frP g (He.asD g n)) d.at_)
structure SaysP (fa : List He.Fa) (fn : List He.DefD) (ex : PySem.W.Frag → Bool) (tb : List Str) (K : PySem.W.Frag) (h : Heap) : Prop where
  kin : K.In h
  plain : ∀ a o, K.lookup a = some o → plainO o = true
  d : He.SaysD fa fn K
  ex : ex K = true
  tb : ∀ f ∈ tb, ∃ c P, tabAt K f = some (c, P) ∧ h.get? P = some { cls := .none, data := .fields #[] } ∧ PySem.W.CodeHd h c P
def hookP (n : Nat) (fa : List He.Fa) (fn : List He.DefD) (ex : PySem.W.Frag → Bool) (tb : List Str) : PySem.W.Hook where
  α := AlP
  obs := fun s => obsP n fa fn ex tb s.heap.get?
  val := fun _ => He.valD fn
  says := fun _ h => ∃ K, SaysP fa fn ex tb K h
  of := fun w s e => by
    have e : obsP n fa fn ex tb s.heap.get? = He.valD fn := e
    obtain ⟨e1, e2⟩ := Prod.mk.inj e
    simp only [Bool.and_eq_true] at e1
    obtain ⟨a1, a2, a3, a4⟩ := e1
    refine ⟨frP s.heap.get? (He.asD s.heap.get? n), fun a o h => (frP_at h).1, fun a o h => (frP_at h).2, ?_, a3, fun f hf => ?_⟩
    · show (_, _) = (_, _)
      rw [a1, a2, e2]
      rfl
    · have z := List.all_eq_true.mp a4 f hf
      unfold tabB at z
      split at z
      · rename_i c P q
        rw [Bool.and_eq_true] at z
        exact ⟨c, P, q, emptyTab_ok z.1, codeB_ok z.2⟩
      · cases z
  keeps := fun _ h h' ⟨K, S⟩ k => ⟨K, PySem.W.Frag.In.keeps S.kin k, S.plain, S.d, S.ex, fun f hf => by
    obtain ⟨c, P, e, h1, h2⟩ := S.tb f hf
    exact ⟨c, P, e, k _ _ h1, h2.keeps k⟩⟩
/-! ### classes of one's own -/
/-- an own class whose only base is object -/
def clsO (K : PySem.W.Frag) (C : Addr) : Bool := match K.lookup C with
  | some ⟨.type t, _, .cls cd, _⟩ => t == "type" && decide (cd.mro = [.ref C, .type "object"])
  | _ => false
theorem clsO_ok {K : PySem.W.Frag} {C : Addr} (h : clsO K C = true) : ∃ dd cd sl, K.lookup C = some ⟨.type "type", dd, .cls cd, sl⟩ ∧ cd.mro = [.ref C, .type "object"] := by
  unfold clsO at h
  split at h
  · rename_i t dd cd sl e
    rw [Bool.and_eq_true, beq_iff_eq, decide_eq_true_eq] at h
    obtain ⟨rfl, h2⟩ := h
    exact ⟨dd, cd, sl, e, h2⟩
  · cases h
theorem mro_own {K : PySem.W.Frag} {C : Addr} {b : Value} (h : clsO K C = true) : PySem.W.mroIn K C b = some ([Value.ref C, Value.type "object"].contains b) := by
  obtain ⟨dd, cd, sl, e, m⟩ := clsO_ok h
  unfold PySem.W.mroIn PySem.W.clsIn
  rw [e]
  show (if cd.mro.isEmpty = true then none else some (cd.mro.contains b)) = _
  rw [m]
  rfl
def tyV : Value → Bool
  | .type _ => true
  | _ => false
theorem bmro : ∀ n ∈ tyNames, ((PySem.fastBuiltinMro n).map fun l => l.all tyV) = some true := by decide +kernel
theorem sub_bt {K : PySem.W.Frag} {n : String} {C : Addr} (hn : n ∈ tyNames) : PySem.W.subIn K (.type n) (.ref C) = some false := by
  have h := bmro n hn
  show (PySem.fastBuiltinMro n).map (·.contains (.ref C)) = some false
  cases e : PySem.fastBuiltinMro n with
  | none => rw [e] at h; cases h
  | some l =>
    rw [e] at h
    have h : l.all tyV = true := by simpa using h
    show some (l.contains (.ref C)) = some false
    congr 1
    rw [← Bool.not_eq_true, List.contains_iff_mem]
    intro hm
    have := List.all_eq_true.mp h _ hm
    cases this
theorem kmeta : ∀ n ∈ tyNames, PySem.W.kitMeta n = true ∧ n ≠ "object" := by decide +kernel
theorem cls_facts {K : PySem.W.Frag} {C : Addr} (h : clsO K C = true) : (∀ n ∈ tyNames, PySem.W.kitOne K (.ref C) (.type n) = some false ∧ PySem.W.kitOne K (.type n) (.ref C) = some false ∧ PySem.W.notFirst K C (.type n) = true) ∧
    ∀ D, clsO K D = true → PySem.W.kitOne K (.ref C) (.ref D) = some (decide (C = D)) ∧ PySem.W.notFirst K C (.ref D) = true := by
  obtain ⟨dd, cd, sl, e, m⟩ := clsO_ok h
  refine ⟨fun n hn => ⟨?_, ?_, ?_⟩, fun D hD => ?_⟩
  · obtain ⟨k1, k2⟩ := kmeta n hn
    unfold PySem.W.kitOne PySem.W.kitCls
    rw [if_neg (by intro z; cases (beq_iff_eq.mp z))]
    dsimp only
    rw [if_pos k1]
    show PySem.W.mroIn K C (.type n) = _
    rw [mro_own h]
    congr 1
    rw [← Bool.not_eq_true, List.contains_iff_mem]
    intro hm
    simp at hm
    exact k2 hm
  · unfold PySem.W.kitOne PySem.W.kitCls
    rw [if_neg (by intro z; cases (beq_iff_eq.mp z))]
    dsimp only
    rw [if_pos (by
      have t1 : PySem.W.typeIn K (.ref C) = some (.type "type") := by
        show (K.lookup C).map (·.cls) = _
        rw [e] <;> rfl
      have t2 : PySem.W.clsIn K C = some cd := by
        unfold PySem.W.clsIn
        rw [e]
      rw [t1, t2]
      simp)]
    exact sub_bt hn
  · unfold PySem.W.notFirst
    rw [sub_bt hn]
    simp
  · obtain ⟨dd', cd', sl', e', m'⟩ := clsO_ok hD
    have t1 : PySem.W.typeIn K (.ref D) = some (.type "type") := by
      show (K.lookup D).map (·.cls) = _
      rw [e'] <;> rfl
    have t2 : PySem.W.clsIn K D = some cd' := by
      unfold PySem.W.clsIn
      rw [e']
    refine ⟨?_, ?_⟩
    · unfold PySem.W.kitOne PySem.W.kitCls
      by_cases q : C = D
      · subst q
        rw [if_pos (beq_iff_eq.mpr rfl)]
        simp
      · rw [if_neg (by intro z; have := beq_iff_eq.mp z; injection this with this; exact q this)]
        dsimp only
        rw [t1, t2, if_pos (by simp)]
        show PySem.W.mroIn K C (.ref D) = _
        rw [mro_own h]
        congr 1
        rw [decide_eq_false q, ← Bool.not_eq_true, List.contains_iff_mem]
        intro hm
        simp at hm
        exact q hm.symm
    · unfold PySem.W.notFirst
      by_cases q : C = D
      · subst q
        simp
      · have : PySem.W.subIn K (.ref D) (.ref C) = some false := by
          show PySem.W.mroIn K D (.ref C) = _
          rw [mro_own hD]
          congr 1
          rw [← Bool.not_eq_true, List.contains_iff_mem]
          intro hm
          simp at hm
          exact q hm
        rw [this]
        simp
end PV

/-! PV16: a class without __init__. -/
namespace PV
open PySem PySem.Spec PyProof.Rows L2
section
variable {k : Nat} {P : Program} {w : World} {K : PySem.W.Frag} {mg : Str → Option Value} {base : Heap} {L : Lx} {cn : Str} {CA : Addr}
def make0C (cn : Str) (ds : List D) (S : Sto) : Res D := match ds with
  | [] => .ok (.loc S.length) (S ++ [.ins cn []])
  | _ => .bad
theorem mk0_of (hm : mg cn = some (.ref CA)) (mk : PySem.W.makesIn K CA = true) (hi : PySem.W.findIn K (.ref CA) "__init__" = some (some (.builtin "object.__init__"))) (ht : PySem.W.mroIn K CA (.type "object") = some true) : MkF L (make0C cn) k P w K mg base CA := ⟨by
  intro X pins σ H s Q us vs π S ds d S' e1 e2 e3 e4 e5 hr I r sr rs ev kk
  subst e1 e2 e3 e4 e5
  unfold make0C at ev
  split at ev
  · cases ev
    obtain rfl := (show vs = [] from rs)
    cases r
    have I2 := Inv.made (C := CA) I
    have ho : ((s.heap.push PySem.W.emptyDict).push (PySem.W.instObj CA s.heap.objs.size)).get? (s.heap.objs.size + 1) = some (PySem.W.instObj CA s.heap.objs.size) := by
      have := Heap.get?_push_size (s.heap.push PySem.W.emptyDict) (o := PySem.W.instObj CA s.heap.objs.size) rfl
      rwa [Heap.size_push] at this
    refine wpAny_call (make_map0 I.kIn mk hi (fun self => PySem.W.Looks.of_pure (PySem.W.oi_bind _)) ?_)
    have t1 := NwA.type_at (M := model X.prog X.w) ho rfl
    have t2 : PySem.W.Looks (model X.prog X.w) ((s.heap.push PySem.W.emptyDict).push (PySem.W.instObj CA s.heap.objs.size)) (isInstance (.ref (s.heap.objs.size + 1)) (.type "object")) true := t1.andThen (PySem.W.looks_mroIn I2.kIn ht)
    refine codeAny_call_builtin PySem.W.oi_plain PySem.W.entry_oi (@PySem.W.check_slot (model X.prog X.w) _ _ _ "object.__init__" "object" "__init__" (.ref (s.heap.objs.size + 1)) [] [] _ PySem.W.oi_kind PySem.W.oi_split t2 (PySem.W.oi_args _) ?_)
    rw [PySem.W.oi_run]
    have hx : H (s.heap.objs.size + 1) = none := I.hok.fresh (Nat.le_succ _)
    have hd : H s.heap.objs.size = none := I.hok.fresh (Nat.le_refl _)
    have hne : s.heap.objs.size ≠ s.heap.objs.size + 1 := Nat.ne_of_lt (Nat.lt_succ_self _)
    have l0 : Le π H π (upd H s.heap.objs.size (.own (s.heap.objs.size + 1))) := Le.back (Le.new (u := .own (s.heap.objs.size + 1)) hd)
    have r0 : SRel L X.K X.mg π (upd H s.heap.objs.size (.own (s.heap.objs.size + 1))) S := sr.le l0 (fun a ha => upd_ne fun e => sr.mem ha (e ▸ hd)) (tabs_new sr.tb hd)
    have hx0 : upd H s.heap.objs.size (.own (s.heap.objs.size + 1)) (s.heap.objs.size + 1) = none := by rw [upd_ne (Ne.symm hne)]; exact hx
    have l1 := Le.new (π := π) (u := .ins CA s.heap.objs.size []) hx0
    have r1 := r0.new (o := .ins cn []) (u := .ins CA s.heap.objs.size []) hx0 ⟨CA, _, [], hm, upd_same, rfl, rfl⟩
    have hat : (π ++ [s.heap.objs.size + 1])[S.length]? = some (s.heap.objs.size + 1) := by
      rw [← sr.len, List.getElem?_append_right (Nat.le_refl _)]
      simp
    exact wpAny_pure ⟨rfl, ⟨.ref (s.heap.objs.size + 1), _, I2, rfl, kk _ _ _ (l0.trans l1) r1 ⟨_, rfl, hat⟩⟩⟩
  · cases ev⟩
end
end PV

/-! PV17: the law's def at the caller's own place: its run by the evaluator gives the row's end. -/
namespace PV
open PySem PySem.Spec PyProof.Rows L2
/-- the abstract heap at the law's entry: the script, known to the object, and one empty table -/
def H0 (a P : Addr) (o : Obj) (xs : List V) : Hp := fun b => if b = a then some (.frz o (.lst xs)) else if b = P then some (.tbl #[]) else none
theorem H0_a {a P : Addr} {o : Obj} {xs : List V} : H0 a P o xs a = some (.frz o (.lst xs)) := if_pos rfl
theorem H0_P {a P : Addr} {o : Obj} {xs : List V} (h : P ≠ a) : H0 a P o xs P = some (.tbl #[]) := (if_neg h).trans (if_pos rfl)
theorem H0_n {a P b : Addr} {o : Obj} {xs : List V} (h : b ≠ a) (h' : b ≠ P) : H0 a P o xs b = none := (if_neg h).trans (if_neg h')
theorem H0_some {a P b : Addr} {o : Obj} {xs : List V} (h : H0 a P o xs b ≠ none) : b = a ∨ b = P := by
  by_cases e : b = a
  · exact .inl e
  · by_cases e' : b = P
    · exact .inr e'
    · exact absurd (H0_n e e') h
theorem law_end {P : Program} {w : World} {K : PySem.W.Frag} {mg mb : Str → Option Value} {fa a c T : Addr} {s₁ : Shared} {vs : List Value} {ns : List Int}
    (KX : K.In s₁.heap) (hp : ∀ b o, K.lookup b = some o → plainO o = true) (hns : s₁.heap.Ns mainGlobals mg) (hb : s₁.heap.Ns builtinsNs mb) (hbb : ∀ x : Str, x ≠ "__name__" → mb x = bootBuiltins x) (hlim : s₁.heap.NoLimit) (hg : s₁.gens = #[])
    (hT : s₁.heap.get? T = some { cls := .none, data := .fields #[] }) (C : PySem.W.CodeHd s₁.heap c T)
    (hbm : ∃ (bm : Addr) (ob : Obj), mg "__builtins__" = some (.ref bm) ∧ bm ≠ builtinsNs ∧ s₁.heap.get? bm = some ob ∧ ob.cls = .type "module" ∧ ob.dict = some builtinsNs ∧ ob.data = .plain)
    (ha : s₁.heap.get? a = some { cls := .type "list", data := .seq vs.toArray }) (hi : IntsAre vs ns) (hl : ns.length ≤ sizeLine)
    (F : ∀ (base : Heap) (H : Hp), K.In base → base.Ns mainGlobals mg → LamX.TabB base mg c T → T ≠ a → Env0 P w K mg base callerA [] s₁ H → H T = some (.tbl #[]) → H a = some (.frz { cls := .type "list", data := .seq vs.toArray } (.lst (ns.map V.int))) →
      codeAny (model P w) callerA (.call (.ref fa) ⟨[.ref a], []⟩) (CR CX0 [] P w H s₁ (fun v _ => v = .bl true) E0) s₁) :
    codeAny (model P w) callerA (.call (.ref fa) ⟨[.ref a], []⟩) (fun r s' => r = .ok (.ret (.bool true)) ∧ OldK s₁.heap s'.heap ∧ s'.os = s₁.os ∧ AllBare s'.gens) s₁ := by
  have nTa : T ≠ a := fun z => by
    rw [z, ha] at hT
    cases hT
  generalize hH : H0 a T { cls := .type "list", data := .seq vs.toArray } (ns.map V.int) = H
  have eA : H a = some (.frz { cls := .type "list", data := .seq vs.toArray } (.lst (ns.map V.int))) := hH ▸ H0_a
  have eT : H T = some (.tbl #[]) := hH ▸ H0_P nTa
  have eS : ∀ b, H b ≠ none → b = a ∨ b = T := fun b h => H0_some (hH ▸ h)
  -- an object of another kind is not tracked
  have free : ∀ {b : Addr} {o : Obj}, s₁.heap.get? b = some o → o ≠ { cls := .type "list", data := .seq vs.toArray } → o ≠ { cls := .none, data := .fields #[] } → H b = none := fun {b o} e n1 n2 => by
    refine Classical.byContradiction fun q => ?_
    rcases eS b q with z | z
    · rw [z, ha] at e
      exact n1 (Option.some.inj e).symm
    · rw [z, hT] at e
      exact n2 (Option.some.inj e).symm
  have inB : ∀ {b : Addr} {o : Obj}, s₁.heap.get? b = some o → o ≠ { cls := .type "list", data := .seq vs.toArray } → o ≠ { cls := .none, data := .fields #[] } → (hidT s₁.heap H).get? b = some o := fun e n1 n2 => hidT_get e (free e n1 n2)
  have nsB : ∀ {b : Addr} {m : Str → Option Value}, s₁.heap.Ns b m → (hidT s₁.heap H).Ns b m := fun {b m} ⟨o, es, ep, e, d, r⟩ => ⟨o, es, ep, inB e (fun z => by rw [z] at d; cases d) (fun z => by rw [z] at d; cases d), d, r⟩
  have hKb : K.In (hidT s₁.heap H) := fun b o e => inB (KX b o e) (fun z => by
    have := hp b o e
    rw [z] at this
    exact absurd this (show ¬ (!("list" == "list")) = true by decide)) (fun z => by
    have := hp b o e
    rw [z] at this
    cases this)
  have hM : L2.Mod K mg (hidT s₁.heap H) := ⟨hKb, nsB hns, ⟨mb, nsB hb, hbb⟩, let ⟨mc, h1, h2⟩ := hlim; ⟨mc, nsB h1, h2⟩⟩
  have TB : LamX.TabB (hidT s₁.heap H) mg c T := by
    refine ⟨?_, ?_, fun z => ?_⟩
    · obtain ⟨o, us, file, tf, flags, tg, inF, text, tt, e1, r1, r2, r3, r4, r5, r6, r7, r8, hne⟩ := C
      exact ⟨o, us, file, tf, flags, tg, inF, text, tt, inB e1 (fun z => by rw [z] at r2; cases r2) (fun z => by rw [z] at r1; cases r1), r1, r2, r3, r4, r5, r6, r7, r8, hne⟩
    · obtain ⟨bm, ob, b1, b2, b3, b4, b5, b6⟩ := hbm
      refine ⟨bm, ob, b1, b2, fun q => ?_, fun q => ?_, inB b3 (fun z => by rw [z] at b6; cases b6) (fun z => by rw [z] at b6; cases b6), b4, b5, b6⟩
      · obtain ⟨o, es, ep, e, hd, _⟩ := hns
        rw [q, e] at b3
        cases b3
        rw [hd] at b6
        cases b6
      · rw [q, hT] at b3
        cases b3
        cases b6
    · obtain ⟨o, es, ep, e, hd, _⟩ := hns
      rw [z, hT] at e
      cases e
      cases hd
  have hok : HOk P w H s₁.heap := fun b u e => by
    rcases eS b (by rw [e]; exact fun z => nomatch z) with z | z
    · rw [z, eA] at e
      cases e
      rw [z]
      exact ⟨ha, by rw [List.length_map]; exact hl, vs, _, vals_ints hi, ha⟩
    · rw [z, eT] at e
      cases e
      rw [z]
      exact hT
  have e0 : Env0 P w K mg (hidT s₁.heap H) callerA [] s₁ H := ⟨rfl, hM, fun b o e => of_hidT e, Nat.le_of_eq (hidT_size _ _), trivial, fun b hb => absurd (show b ∈ ([] : List Addr) from hb) (by simp), hok, .of_eq hg⟩
  refine codeAny_mono (F _ H hKb (nsB hns) TB nTa e0 eT eA) fun r s' h => ?_
  cases r with
  | error e => exact (show False from h).elim
  | ok fl =>
    cases fl with
    | next => exact False.elim h
    | brk => exact False.elim h
    | cont => exact False.elim h
    | ret u =>
      obtain ⟨v, H', os, bare, un, hok', r', q⟩ := h
      have q' : v = .bl true := q
      subst q'
      obtain rfl : u = Value.bool true := r'
      obtain ⟨more, hm⟩ : ∃ more : Array Value, s'.heap.get? T = some { cls := .none, data := .fields more } := by
        obtain ⟨more, z⟩ := un.tbls T #[] eT
        exact ⟨_, hok' T _ z⟩
      have key : ∀ b o, b ≠ T → s₁.heap.get? b = some o → s'.heap.get? b = some o := fun b o nb e => by
        cases q : H b with
        | none => exact un.keep b o e q (by intro z; exact absurd (show b ∈ ([] : List Addr) from z) (by simp)) (by simp)
        | some u =>
          rcases eS b (by rw [q]; exact fun z => nomatch z) with z | z
          · rw [z] at e q ⊢
            have z2 := un.frzs a _ _ eA
            obtain ⟨e2, _⟩ := hok' a _ z2
            rw [ha] at e
            cases e
            exact e2
          · exact absurd z nb
      refine ⟨rfl, ⟨fun b o e => ?_, fun b o e => ?_⟩, os, bare⟩
      · by_cases nb : b = T
        · rw [nb] at e ⊢
          rw [hT] at e
          cases e
          exact .inr (.inl ⟨(C.tab hT).isCodeTable, rfl, #[], more, rfl, by rw [Array.empty_append]; exact hm⟩)
        · exact .inl (key b o nb e)
      · by_cases nb : b = T
        · rw [nb]; exact ⟨_, hm⟩
        · exact ⟨o, key b o nb e⟩
theorem reps_ints {L : Lx} {K : PySem.W.Frag} {mg : Str → Option Value} {π : List Addr} {H : Hp} : ∀ ns : List Int, Reps L K mg π H (ns.map D.int) (ns.map V.int)
  | [] => rfl
  | n :: ns => ⟨_, _, rfl, rfl, reps_ints ns⟩
/-- the store at the law's entry -/
theorem srel_start {L : Lx} {K : PySem.W.Frag} {mg : Str → Option Value} {H : Hp} {a T : Addr} {o : Obj} {ns : List Int} (hA : H a = some (.frz o (.lst (ns.map V.int)))) (hT : H T = some (.tbl #[])) (ht : ∀ p ∈ tabs L K mg, p.1 = T) : SRel L K mg [a] H [.frz (ns.map D.int)] := by
  refine ⟨rfl, by simp, fun n o' b h1 h2 => ?_, fun p hp => ?_⟩
  · match n with
    | 0 =>
      cases h1
      cases h2
      exact ⟨o, _, hA, reps_ints ns⟩
    | n + 1 => simp at h1
  · rw [ht p hp]
    exact LamX.TabS.nil hT
end PV

/-! K90a: the law's defs, each followed by the evaluator's code. -/
namespace K90
open PySem PySem.Spec PyProof.Rows L2 PV
abbrev PRG : Program := PySem.Challenge.pw_beampapers_k90_classes_made_by_hand
def nth : List Stmt → Nat → Stmt
  | [], _ => .Pass ⟨0, 0, 0, 0⟩
  | s :: _, 0 => s
  | _ :: r, n + 1 => nth r n
def top (i : Nat) : Stmt := nth PRG.main.body i
def clsBody : Stmt → List Stmt
  | .ClassDef _ _ _ b _ _ _ _ _ _ _ => b
  | _ => []
def mth (i j : Nat) : Stmt := nth (clsBody (top i)) j
def lamT : List Expr → Option (Arguments × Expr × Scope)
  | [_, _, _, .Lambda p b s _] => some (p, b, s)
  | _ => none
def lamS : Stmt → Option (Arguments × Expr × Scope)
  | .Assign _ (.List [.Tuple es _ _] _) _ => lamT es
  | .Expr (.Call _ [.Tuple es _ _] _ _) _ => lamT es
  | _ => none
def lams : List (Arguments × Expr × Scope) := (defBody (top 29)).filterMap lamS
def lamA (i : Nat) : Arguments × Expr × Scope := lams.getD i (⟨[], [], none, [], [], none, []⟩, .Constant .none 0 ⟨0, 0, 0, 0⟩, { kind := .function, names := [], isGenerator := false, isCoroutine := false })
def L90 : Lx := ⟨lams.map fun p => (("_law_rows" : Str) ++ ".<locals>." ++ "<lambda>", p.1, p.2.1, p.2.2), ["_law_rows"]⟩
def cls90 : List Str := ["Stresses", "Stills", "Carries", "Yields", "Factor", "Endless", "Range", "Moves", "Gives", "Moment", "Bends", "Loose", "Line", "Design", "Model", "Paper"]
def par90 : List (Str × List Str) := [("Stresses", ["rows"]), ("Stills", ["rows"]), ("Carries", ["forces"]), ("Yields", ["motion", "kinks"]), ("Factor", ["ratio"]), ("Range", ["low", "high"]), ("Moves", ["forces"]), ("Gives", ["motion"]), ("Moment", ["ratio"]), ("Bends", ["ratio"]), ("Loose", ["motion"]), ("Line", ["pieces"]), ("Design", ["cost", "strengths"]), ("Model", ["joints", "beams", "marks", "loads", "asks", "prices"]), ("Paper", ["asked"])]
def permT : List ((Str × List Str) × List Nat) := [(("Stresses", ["rows"]), [0]), (("Stills", ["rows"]), [0]), (("Carries", ["forces"]), [0]), (("Yields", ["kinks", "motion"]), [1, 0]), (("Factor", ["ratio"]), [0]), (("Range", ["high", "low"]), [1, 0]), (("Moves", ["forces"]), [0]), (("Gives", ["motion"]), [0]), (("Moment", ["ratio"]), [0]), (("Bends", ["ratio"]), [0]), (("Loose", ["motion"]), [0]), (("Line", ["pieces"]), [0]), (("Paper", ["asked"]), [0]), (("Design", ["strengths", "cost"]), [1, 0]), (("Model", ["asks", "loads", "marks", "beams", "joints"]), [4, 3, 2, 1, 0])]
def perm90 (c : Str) (ks : List Str) : Option (List Nat) := permT.lookup (c, ks)
def attr90 (c f : Str) : Bool := (par90.lookup c).any fun ps => ps.contains f
def glob90 (x : Str) : Option D := if cls90.contains x = true ∨ x = "_law_model_fields" then some (.glb x) else none
structure Lv where
  cl : Str → List D → Sto → Res D
  mc : Str → Str → List D → Sto → Res D
  mq : Str → List D → Sto → Res D
  lm : Nat → List D → Sto → Res D
def semL (h : Option Str) (r : Bool) (l : Lv) : Sem := ⟨l.cl, l.mc, l.mq, l.lm, glob90, attr90, fun c => cls90.contains c, false, r, h, L90, perm90⟩
def n_copied : List Str := ["value"]
def p_copied : List Str := ["value"]
noncomputable def c_copied : {c : Cs // ∀ (l : Lv) (k : Nat), SSs (semL none false l) k n_copied ⟨defScope (top 1), true⟩ 0 (defBody (top 1)) c} := ⟨_, fun l k =>
  (sss_cons (ss_ret (se_ite (Q.isi (Q.c1 (Q.v 0) (Q.c1 (Q.ty "list" boot_list) Q.c0))) (Q.tuple (Q.c1 (Q.v 0) Q.c0)) (Q.v 0)))
  sss_nil)⟩
def n_Stresses__init__ : List Str := ["self", "rows"]
def p_Stresses__init__ : List Str := ["self", "rows"]
noncomputable def c_Stresses__init__ : {c : Cs // ∀ (l : Lv) (k : Nat), SSs (semL none false l) k n_Stresses__init__ ⟨defScope (mth 3 0), true⟩ 0 (defBody (mth 3 0)) c} := ⟨_, fun l k =>
  (sss_cons (Q.afld (Q.v 0) (Q.call (Q.c1 (Q.v 1) Q.c0)))
  sss_nil)⟩
def n_Stresses__eq__ : List Str := ["self", "other"]
def p_Stresses__eq__ : List Str := ["self", "other"]
noncomputable def c_Stresses__eq__ : {c : Cs // ∀ (l : Lv) (k : Nat), SSs (semL none false l) k n_Stresses__eq__ ⟨defScope (mth 3 1), true⟩ 0 (defBody (mth 3 1)) c} := ⟨_, fun l k =>
  (sss_cons (ss_ret (SB.se (sb_and (Q.isi (Q.c1 (Q.v 1) (Q.c1 Q.g Q.c0))) (sb_one (se_eq (Q.fld (Q.v 0)) (Q.fld (Q.v 1)))))))
  sss_nil)⟩
def n_Stresses__ne__ : List Str := ["self", "other"]
def p_Stresses__ne__ : List Str := ["self", "other"]
noncomputable def c_Stresses__ne__ : {c : Cs // ∀ (l : Lv) (k : Nat), SSs (semL none false l) k n_Stresses__ne__ ⟨defScope (mth 3 2), true⟩ 0 (defBody (mth 3 2)) c} := ⟨_, fun l k =>
  (sss_cons (ss_ret (se_not (se_eq (Q.v 0) (Q.v 1))))
  sss_nil)⟩
def n_Stills__init__ : List Str := ["self", "rows"]
def p_Stills__init__ : List Str := ["self", "rows"]
noncomputable def c_Stills__init__ : {c : Cs // ∀ (l : Lv) (k : Nat), SSs (semL none false l) k n_Stills__init__ ⟨defScope (mth 4 0), true⟩ 0 (defBody (mth 4 0)) c} := ⟨_, fun l k =>
  (sss_cons (Q.afld (Q.v 0) (Q.call (Q.c1 (Q.v 1) Q.c0)))
  sss_nil)⟩
def n_Stills__eq__ : List Str := ["self", "other"]
def p_Stills__eq__ : List Str := ["self", "other"]
noncomputable def c_Stills__eq__ : {c : Cs // ∀ (l : Lv) (k : Nat), SSs (semL none false l) k n_Stills__eq__ ⟨defScope (mth 4 1), true⟩ 0 (defBody (mth 4 1)) c} := ⟨_, fun l k =>
  (sss_cons (ss_ret (SB.se (sb_and (Q.isi (Q.c1 (Q.v 1) (Q.c1 Q.g Q.c0))) (sb_one (se_eq (Q.fld (Q.v 0)) (Q.fld (Q.v 1)))))))
  sss_nil)⟩
def n_Stills__ne__ : List Str := ["self", "other"]
def p_Stills__ne__ : List Str := ["self", "other"]
noncomputable def c_Stills__ne__ : {c : Cs // ∀ (l : Lv) (k : Nat), SSs (semL none false l) k n_Stills__ne__ ⟨defScope (mth 4 2), true⟩ 0 (defBody (mth 4 2)) c} := ⟨_, fun l k =>
  (sss_cons (ss_ret (se_not (se_eq (Q.v 0) (Q.v 1))))
  sss_nil)⟩
def n_Carries__init__ : List Str := ["self", "forces"]
def p_Carries__init__ : List Str := ["self", "forces"]
noncomputable def c_Carries__init__ : {c : Cs // ∀ (l : Lv) (k : Nat), SSs (semL none false l) k n_Carries__init__ ⟨defScope (mth 5 0), true⟩ 0 (defBody (mth 5 0)) c} := ⟨_, fun l k =>
  (sss_cons (Q.afld (Q.v 0) (Q.call (Q.c1 (Q.v 1) Q.c0)))
  sss_nil)⟩
def n_Carries__eq__ : List Str := ["self", "other"]
def p_Carries__eq__ : List Str := ["self", "other"]
noncomputable def c_Carries__eq__ : {c : Cs // ∀ (l : Lv) (k : Nat), SSs (semL none false l) k n_Carries__eq__ ⟨defScope (mth 5 1), true⟩ 0 (defBody (mth 5 1)) c} := ⟨_, fun l k =>
  (sss_cons (ss_ret (SB.se (sb_and (Q.isi (Q.c1 (Q.v 1) (Q.c1 Q.g Q.c0))) (sb_one (se_eq (Q.fld (Q.v 0)) (Q.fld (Q.v 1)))))))
  sss_nil)⟩
def n_Carries__ne__ : List Str := ["self", "other"]
def p_Carries__ne__ : List Str := ["self", "other"]
noncomputable def c_Carries__ne__ : {c : Cs // ∀ (l : Lv) (k : Nat), SSs (semL none false l) k n_Carries__ne__ ⟨defScope (mth 5 2), true⟩ 0 (defBody (mth 5 2)) c} := ⟨_, fun l k =>
  (sss_cons (ss_ret (se_not (se_eq (Q.v 0) (Q.v 1))))
  sss_nil)⟩
def n_Yields__init__ : List Str := ["self", "motion", "kinks"]
def p_Yields__init__ : List Str := ["self", "motion", "kinks"]
noncomputable def c_Yields__init__ : {c : Cs // ∀ (l : Lv) (k : Nat), SSs (semL none false l) k n_Yields__init__ ⟨defScope (mth 6 0), true⟩ 0 (defBody (mth 6 0)) c} := ⟨_, fun l k =>
  (sss_cons (Q.afld (Q.v 0) (Q.call (Q.c1 (Q.v 1) Q.c0)))
  (sss_cons (Q.afld (Q.v 0) (Q.call (Q.c1 (Q.v 2) Q.c0)))
  sss_nil))⟩
def n_Yields__eq__ : List Str := ["self", "other"]
def p_Yields__eq__ : List Str := ["self", "other"]
noncomputable def c_Yields__eq__ : {c : Cs // ∀ (l : Lv) (k : Nat), SSs (semL none false l) k n_Yields__eq__ ⟨defScope (mth 6 1), true⟩ 0 (defBody (mth 6 1)) c} := ⟨_, fun l k =>
  (sss_cons (ss_ret (SB.se (sb_and (Q.isi (Q.c1 (Q.v 1) (Q.c1 Q.g Q.c0))) (sb_one (se_eq (se_tup (Q.c1 (Q.fld (Q.v 0)) (Q.c1 (Q.fld (Q.v 0)) Q.c0))) (se_tup (Q.c1 (Q.fld (Q.v 1)) (Q.c1 (Q.fld (Q.v 1)) Q.c0))))))))
  sss_nil)⟩
def n_Yields__ne__ : List Str := ["self", "other"]
def p_Yields__ne__ : List Str := ["self", "other"]
noncomputable def c_Yields__ne__ : {c : Cs // ∀ (l : Lv) (k : Nat), SSs (semL none false l) k n_Yields__ne__ ⟨defScope (mth 6 2), true⟩ 0 (defBody (mth 6 2)) c} := ⟨_, fun l k =>
  (sss_cons (ss_ret (se_not (se_eq (Q.v 0) (Q.v 1))))
  sss_nil)⟩
def n_Factor__init__ : List Str := ["self", "ratio"]
def p_Factor__init__ : List Str := ["self", "ratio"]
noncomputable def c_Factor__init__ : {c : Cs // ∀ (l : Lv) (k : Nat), SSs (semL none false l) k n_Factor__init__ ⟨defScope (mth 7 0), true⟩ 0 (defBody (mth 7 0)) c} := ⟨_, fun l k =>
  (sss_cons (Q.afld (Q.v 0) (Q.call (Q.c1 (Q.v 1) Q.c0)))
  sss_nil)⟩
def n_Factor__eq__ : List Str := ["self", "other"]
def p_Factor__eq__ : List Str := ["self", "other"]
noncomputable def c_Factor__eq__ : {c : Cs // ∀ (l : Lv) (k : Nat), SSs (semL none false l) k n_Factor__eq__ ⟨defScope (mth 7 1), true⟩ 0 (defBody (mth 7 1)) c} := ⟨_, fun l k =>
  (sss_cons (ss_ret (SB.se (sb_and (Q.isi (Q.c1 (Q.v 1) (Q.c1 Q.g Q.c0))) (sb_one (se_eq (Q.fld (Q.v 0)) (Q.fld (Q.v 1)))))))
  sss_nil)⟩
def n_Factor__ne__ : List Str := ["self", "other"]
def p_Factor__ne__ : List Str := ["self", "other"]
noncomputable def c_Factor__ne__ : {c : Cs // ∀ (l : Lv) (k : Nat), SSs (semL none false l) k n_Factor__ne__ ⟨defScope (mth 7 2), true⟩ 0 (defBody (mth 7 2)) c} := ⟨_, fun l k =>
  (sss_cons (ss_ret (se_not (se_eq (Q.v 0) (Q.v 1))))
  sss_nil)⟩
def n_Endless__eq__ : List Str := ["self", "other"]
def p_Endless__eq__ : List Str := ["self", "other"]
noncomputable def c_Endless__eq__ : {c : Cs // ∀ (l : Lv) (k : Nat), SSs (semL none false l) k n_Endless__eq__ ⟨defScope (mth 8 0), true⟩ 0 (defBody (mth 8 0)) c} := ⟨_, fun l k =>
  (sss_cons (ss_ret (Q.isi (Q.c1 (Q.v 1) (Q.c1 Q.g Q.c0))))
  sss_nil)⟩
def n_Endless__ne__ : List Str := ["self", "other"]
def p_Endless__ne__ : List Str := ["self", "other"]
noncomputable def c_Endless__ne__ : {c : Cs // ∀ (l : Lv) (k : Nat), SSs (semL none false l) k n_Endless__ne__ ⟨defScope (mth 8 1), true⟩ 0 (defBody (mth 8 1)) c} := ⟨_, fun l k =>
  (sss_cons (ss_ret (se_not (se_eq (Q.v 0) (Q.v 1))))
  sss_nil)⟩
def n_Range__init__ : List Str := ["self", "low", "high"]
def p_Range__init__ : List Str := ["self", "low", "high"]
noncomputable def c_Range__init__ : {c : Cs // ∀ (l : Lv) (k : Nat), SSs (semL none false l) k n_Range__init__ ⟨defScope (mth 9 0), true⟩ 0 (defBody (mth 9 0)) c} := ⟨_, fun l k =>
  (sss_cons (Q.afld (Q.v 0) (Q.call (Q.c1 (Q.v 1) Q.c0)))
  (sss_cons (Q.afld (Q.v 0) (Q.call (Q.c1 (Q.v 2) Q.c0)))
  sss_nil))⟩
def n_Range__eq__ : List Str := ["self", "other"]
def p_Range__eq__ : List Str := ["self", "other"]
noncomputable def c_Range__eq__ : {c : Cs // ∀ (l : Lv) (k : Nat), SSs (semL none false l) k n_Range__eq__ ⟨defScope (mth 9 1), true⟩ 0 (defBody (mth 9 1)) c} := ⟨_, fun l k =>
  (sss_cons (ss_ret (SB.se (sb_and (Q.isi (Q.c1 (Q.v 1) (Q.c1 Q.g Q.c0))) (sb_one (se_eq (se_tup (Q.c1 (Q.fld (Q.v 0)) (Q.c1 (Q.fld (Q.v 0)) Q.c0))) (se_tup (Q.c1 (Q.fld (Q.v 1)) (Q.c1 (Q.fld (Q.v 1)) Q.c0))))))))
  sss_nil)⟩
def n_Range__ne__ : List Str := ["self", "other"]
def p_Range__ne__ : List Str := ["self", "other"]
noncomputable def c_Range__ne__ : {c : Cs // ∀ (l : Lv) (k : Nat), SSs (semL none false l) k n_Range__ne__ ⟨defScope (mth 9 2), true⟩ 0 (defBody (mth 9 2)) c} := ⟨_, fun l k =>
  (sss_cons (ss_ret (se_not (se_eq (Q.v 0) (Q.v 1))))
  sss_nil)⟩
def n_Moves__init__ : List Str := ["self", "forces"]
def p_Moves__init__ : List Str := ["self", "forces"]
noncomputable def c_Moves__init__ : {c : Cs // ∀ (l : Lv) (k : Nat), SSs (semL none false l) k n_Moves__init__ ⟨defScope (mth 10 0), true⟩ 0 (defBody (mth 10 0)) c} := ⟨_, fun l k =>
  (sss_cons (Q.afld (Q.v 0) (Q.call (Q.c1 (Q.v 1) Q.c0)))
  sss_nil)⟩
def n_Moves__eq__ : List Str := ["self", "other"]
def p_Moves__eq__ : List Str := ["self", "other"]
noncomputable def c_Moves__eq__ : {c : Cs // ∀ (l : Lv) (k : Nat), SSs (semL none false l) k n_Moves__eq__ ⟨defScope (mth 10 1), true⟩ 0 (defBody (mth 10 1)) c} := ⟨_, fun l k =>
  (sss_cons (ss_ret (SB.se (sb_and (Q.isi (Q.c1 (Q.v 1) (Q.c1 Q.g Q.c0))) (sb_one (se_eq (Q.fld (Q.v 0)) (Q.fld (Q.v 1)))))))
  sss_nil)⟩
def n_Moves__ne__ : List Str := ["self", "other"]
def p_Moves__ne__ : List Str := ["self", "other"]
noncomputable def c_Moves__ne__ : {c : Cs // ∀ (l : Lv) (k : Nat), SSs (semL none false l) k n_Moves__ne__ ⟨defScope (mth 10 2), true⟩ 0 (defBody (mth 10 2)) c} := ⟨_, fun l k =>
  (sss_cons (ss_ret (se_not (se_eq (Q.v 0) (Q.v 1))))
  sss_nil)⟩
def n_Gives__init__ : List Str := ["self", "motion"]
def p_Gives__init__ : List Str := ["self", "motion"]
noncomputable def c_Gives__init__ : {c : Cs // ∀ (l : Lv) (k : Nat), SSs (semL none false l) k n_Gives__init__ ⟨defScope (mth 11 0), true⟩ 0 (defBody (mth 11 0)) c} := ⟨_, fun l k =>
  (sss_cons (Q.afld (Q.v 0) (Q.call (Q.c1 (Q.v 1) Q.c0)))
  sss_nil)⟩
def n_Gives__eq__ : List Str := ["self", "other"]
def p_Gives__eq__ : List Str := ["self", "other"]
noncomputable def c_Gives__eq__ : {c : Cs // ∀ (l : Lv) (k : Nat), SSs (semL none false l) k n_Gives__eq__ ⟨defScope (mth 11 1), true⟩ 0 (defBody (mth 11 1)) c} := ⟨_, fun l k =>
  (sss_cons (ss_ret (SB.se (sb_and (Q.isi (Q.c1 (Q.v 1) (Q.c1 Q.g Q.c0))) (sb_one (se_eq (Q.fld (Q.v 0)) (Q.fld (Q.v 1)))))))
  sss_nil)⟩
def n_Gives__ne__ : List Str := ["self", "other"]
def p_Gives__ne__ : List Str := ["self", "other"]
noncomputable def c_Gives__ne__ : {c : Cs // ∀ (l : Lv) (k : Nat), SSs (semL none false l) k n_Gives__ne__ ⟨defScope (mth 11 2), true⟩ 0 (defBody (mth 11 2)) c} := ⟨_, fun l k =>
  (sss_cons (ss_ret (se_not (se_eq (Q.v 0) (Q.v 1))))
  sss_nil)⟩
def n_Moment__init__ : List Str := ["self", "ratio"]
def p_Moment__init__ : List Str := ["self", "ratio"]
noncomputable def c_Moment__init__ : {c : Cs // ∀ (l : Lv) (k : Nat), SSs (semL none false l) k n_Moment__init__ ⟨defScope (mth 12 0), true⟩ 0 (defBody (mth 12 0)) c} := ⟨_, fun l k =>
  (sss_cons (Q.afld (Q.v 0) (Q.call (Q.c1 (Q.v 1) Q.c0)))
  sss_nil)⟩
def n_Moment__eq__ : List Str := ["self", "other"]
def p_Moment__eq__ : List Str := ["self", "other"]
noncomputable def c_Moment__eq__ : {c : Cs // ∀ (l : Lv) (k : Nat), SSs (semL none false l) k n_Moment__eq__ ⟨defScope (mth 12 1), true⟩ 0 (defBody (mth 12 1)) c} := ⟨_, fun l k =>
  (sss_cons (ss_ret (SB.se (sb_and (Q.isi (Q.c1 (Q.v 1) (Q.c1 Q.g Q.c0))) (sb_one (se_eq (Q.fld (Q.v 0)) (Q.fld (Q.v 1)))))))
  sss_nil)⟩
def n_Moment__ne__ : List Str := ["self", "other"]
def p_Moment__ne__ : List Str := ["self", "other"]
noncomputable def c_Moment__ne__ : {c : Cs // ∀ (l : Lv) (k : Nat), SSs (semL none false l) k n_Moment__ne__ ⟨defScope (mth 12 2), true⟩ 0 (defBody (mth 12 2)) c} := ⟨_, fun l k =>
  (sss_cons (ss_ret (se_not (se_eq (Q.v 0) (Q.v 1))))
  sss_nil)⟩
def n_Bends__init__ : List Str := ["self", "ratio"]
def p_Bends__init__ : List Str := ["self", "ratio"]
noncomputable def c_Bends__init__ : {c : Cs // ∀ (l : Lv) (k : Nat), SSs (semL none false l) k n_Bends__init__ ⟨defScope (mth 13 0), true⟩ 0 (defBody (mth 13 0)) c} := ⟨_, fun l k =>
  (sss_cons (Q.afld (Q.v 0) (Q.call (Q.c1 (Q.v 1) Q.c0)))
  sss_nil)⟩
def n_Bends__eq__ : List Str := ["self", "other"]
def p_Bends__eq__ : List Str := ["self", "other"]
noncomputable def c_Bends__eq__ : {c : Cs // ∀ (l : Lv) (k : Nat), SSs (semL none false l) k n_Bends__eq__ ⟨defScope (mth 13 1), true⟩ 0 (defBody (mth 13 1)) c} := ⟨_, fun l k =>
  (sss_cons (ss_ret (SB.se (sb_and (Q.isi (Q.c1 (Q.v 1) (Q.c1 Q.g Q.c0))) (sb_one (se_eq (Q.fld (Q.v 0)) (Q.fld (Q.v 1)))))))
  sss_nil)⟩
def n_Bends__ne__ : List Str := ["self", "other"]
def p_Bends__ne__ : List Str := ["self", "other"]
noncomputable def c_Bends__ne__ : {c : Cs // ∀ (l : Lv) (k : Nat), SSs (semL none false l) k n_Bends__ne__ ⟨defScope (mth 13 2), true⟩ 0 (defBody (mth 13 2)) c} := ⟨_, fun l k =>
  (sss_cons (ss_ret (se_not (se_eq (Q.v 0) (Q.v 1))))
  sss_nil)⟩
def n_Loose__init__ : List Str := ["self", "motion"]
def p_Loose__init__ : List Str := ["self", "motion"]
noncomputable def c_Loose__init__ : {c : Cs // ∀ (l : Lv) (k : Nat), SSs (semL none false l) k n_Loose__init__ ⟨defScope (mth 14 0), true⟩ 0 (defBody (mth 14 0)) c} := ⟨_, fun l k =>
  (sss_cons (Q.afld (Q.v 0) (Q.call (Q.c1 (Q.v 1) Q.c0)))
  sss_nil)⟩
def n_Loose__eq__ : List Str := ["self", "other"]
def p_Loose__eq__ : List Str := ["self", "other"]
noncomputable def c_Loose__eq__ : {c : Cs // ∀ (l : Lv) (k : Nat), SSs (semL none false l) k n_Loose__eq__ ⟨defScope (mth 14 1), true⟩ 0 (defBody (mth 14 1)) c} := ⟨_, fun l k =>
  (sss_cons (ss_ret (SB.se (sb_and (Q.isi (Q.c1 (Q.v 1) (Q.c1 Q.g Q.c0))) (sb_one (se_eq (Q.fld (Q.v 0)) (Q.fld (Q.v 1)))))))
  sss_nil)⟩
def n_Loose__ne__ : List Str := ["self", "other"]
def p_Loose__ne__ : List Str := ["self", "other"]
noncomputable def c_Loose__ne__ : {c : Cs // ∀ (l : Lv) (k : Nat), SSs (semL none false l) k n_Loose__ne__ ⟨defScope (mth 14 2), true⟩ 0 (defBody (mth 14 2)) c} := ⟨_, fun l k =>
  (sss_cons (ss_ret (se_not (se_eq (Q.v 0) (Q.v 1))))
  sss_nil)⟩
def n_Line__init__ : List Str := ["self", "pieces"]
def p_Line__init__ : List Str := ["self", "pieces"]
noncomputable def c_Line__init__ : {c : Cs // ∀ (l : Lv) (k : Nat), SSs (semL none false l) k n_Line__init__ ⟨defScope (mth 15 0), true⟩ 0 (defBody (mth 15 0)) c} := ⟨_, fun l k =>
  (sss_cons (Q.afld (Q.v 0) (Q.call (Q.c1 (Q.v 1) Q.c0)))
  sss_nil)⟩
def n_Line__eq__ : List Str := ["self", "other"]
def p_Line__eq__ : List Str := ["self", "other"]
noncomputable def c_Line__eq__ : {c : Cs // ∀ (l : Lv) (k : Nat), SSs (semL none false l) k n_Line__eq__ ⟨defScope (mth 15 1), true⟩ 0 (defBody (mth 15 1)) c} := ⟨_, fun l k =>
  (sss_cons (ss_ret (SB.se (sb_and (Q.isi (Q.c1 (Q.v 1) (Q.c1 Q.g Q.c0))) (sb_one (se_eq (Q.fld (Q.v 0)) (Q.fld (Q.v 1)))))))
  sss_nil)⟩
def n_Line__ne__ : List Str := ["self", "other"]
def p_Line__ne__ : List Str := ["self", "other"]
noncomputable def c_Line__ne__ : {c : Cs // ∀ (l : Lv) (k : Nat), SSs (semL none false l) k n_Line__ne__ ⟨defScope (mth 15 2), true⟩ 0 (defBody (mth 15 2)) c} := ⟨_, fun l k =>
  (sss_cons (ss_ret (se_not (se_eq (Q.v 0) (Q.v 1))))
  sss_nil)⟩
def n_Design__init__ : List Str := ["self", "cost", "strengths"]
def p_Design__init__ : List Str := ["self", "cost", "strengths"]
noncomputable def c_Design__init__ : {c : Cs // ∀ (l : Lv) (k : Nat), SSs (semL none false l) k n_Design__init__ ⟨defScope (mth 16 0), true⟩ 0 (defBody (mth 16 0)) c} := ⟨_, fun l k =>
  (sss_cons (Q.afld (Q.v 0) (Q.call (Q.c1 (Q.v 1) Q.c0)))
  (sss_cons (Q.afld (Q.v 0) (Q.call (Q.c1 (Q.v 2) Q.c0)))
  sss_nil))⟩
def n_Design__eq__ : List Str := ["self", "other"]
def p_Design__eq__ : List Str := ["self", "other"]
noncomputable def c_Design__eq__ : {c : Cs // ∀ (l : Lv) (k : Nat), SSs (semL none false l) k n_Design__eq__ ⟨defScope (mth 16 1), true⟩ 0 (defBody (mth 16 1)) c} := ⟨_, fun l k =>
  (sss_cons (ss_ret (SB.se (sb_and (Q.isi (Q.c1 (Q.v 1) (Q.c1 Q.g Q.c0))) (sb_one (se_eq (se_tup (Q.c1 (Q.fld (Q.v 0)) (Q.c1 (Q.fld (Q.v 0)) Q.c0))) (se_tup (Q.c1 (Q.fld (Q.v 1)) (Q.c1 (Q.fld (Q.v 1)) Q.c0))))))))
  sss_nil)⟩
def n_Design__ne__ : List Str := ["self", "other"]
def p_Design__ne__ : List Str := ["self", "other"]
noncomputable def c_Design__ne__ : {c : Cs // ∀ (l : Lv) (k : Nat), SSs (semL none false l) k n_Design__ne__ ⟨defScope (mth 16 2), true⟩ 0 (defBody (mth 16 2)) c} := ⟨_, fun l k =>
  (sss_cons (ss_ret (se_not (se_eq (Q.v 0) (Q.v 1))))
  sss_nil)⟩
def n_Model__init__ : List Str := ["self", "joints", "beams", "marks", "loads", "asks", "prices"]
def p_Model__init__ : List Str := ["self", "joints", "beams", "marks", "loads", "asks", "prices"]
noncomputable def c_Model__init__ : {c : Cs // ∀ (l : Lv) (k : Nat), SSs (semL none false l) k n_Model__init__ ⟨defScope (mth 18 0), true⟩ 0 (defBody (mth 18 0)) c} := ⟨_, fun l k =>
  (sss_cons (Q.afld (Q.v 0) (Q.call (Q.c1 (Q.v 1) Q.c0)))
  (sss_cons (Q.afld (Q.v 0) (Q.call (Q.c1 (Q.v 2) Q.c0)))
  (sss_cons (Q.afld (Q.v 0) (Q.call (Q.c1 (Q.v 3) Q.c0)))
  (sss_cons (Q.afld (Q.v 0) (Q.call (Q.c1 (Q.v 4) Q.c0)))
  (sss_cons (Q.afld (Q.v 0) (Q.call (Q.c1 (Q.v 5) Q.c0)))
  (sss_cons (Q.afld (Q.v 0) (Q.call (Q.c1 (Q.v 6) Q.c0)))
  sss_nil))))))⟩
def n_Model__eq__ : List Str := ["self", "other"]
def p_Model__eq__ : List Str := ["self", "other"]
noncomputable def c_Model__eq__ : {c : Cs // ∀ (l : Lv) (k : Nat), SSs (semL none false l) k n_Model__eq__ ⟨defScope (mth 18 1), true⟩ 0 (defBody (mth 18 1)) c} := ⟨_, fun l k =>
  (sss_cons (ss_ret (SB.se (sb_and (Q.isi (Q.c1 (Q.v 1) (Q.c1 Q.g Q.c0))) (sb_one (se_eq (Q.call (Q.c1 (Q.v 0) Q.c0)) (Q.call (Q.c1 (Q.v 1) Q.c0)))))))
  sss_nil)⟩
def n_Model__ne__ : List Str := ["self", "other"]
def p_Model__ne__ : List Str := ["self", "other"]
noncomputable def c_Model__ne__ : {c : Cs // ∀ (l : Lv) (k : Nat), SSs (semL none false l) k n_Model__ne__ ⟨defScope (mth 18 2), true⟩ 0 (defBody (mth 18 2)) c} := ⟨_, fun l k =>
  (sss_cons (ss_ret (se_not (se_eq (Q.v 0) (Q.v 1))))
  sss_nil)⟩
def n_model_key : List Str := ["model"]
def p_model_key : List Str := ["model"]
noncomputable def c_model_key : {c : Cs // ∀ (l : Lv) (k : Nat), SSs (semL none false l) k n_model_key ⟨defScope (top 19), true⟩ 0 (defBody (top 19)) c} := ⟨_, fun l k =>
  (sss_cons (ss_ret (se_tup (Q.c1 (Q.fld (Q.v 0)) (Q.c1 (Q.fld (Q.v 0)) (Q.c1 (Q.fld (Q.v 0)) (Q.c1 (Q.fld (Q.v 0)) (Q.c1 (Q.fld (Q.v 0)) (Q.c1 (Q.fld (Q.v 0)) Q.c0))))))))
  sss_nil)⟩
def n_Paper__init__ : List Str := ["self", "asked"]
def p_Paper__init__ : List Str := ["self", "asked"]
noncomputable def c_Paper__init__ : {c : Cs // ∀ (l : Lv) (k : Nat), SSs (semL none false l) k n_Paper__init__ ⟨defScope (mth 21 0), true⟩ 0 (defBody (mth 21 0)) c} := ⟨_, fun l k =>
  (sss_cons (Q.afld (Q.v 0) (Q.call (Q.c1 (Q.v 1) Q.c0)))
  sss_nil)⟩
def n_Paper__eq__ : List Str := ["self", "other"]
def p_Paper__eq__ : List Str := ["self", "other"]
noncomputable def c_Paper__eq__ : {c : Cs // ∀ (l : Lv) (k : Nat), SSs (semL none false l) k n_Paper__eq__ ⟨defScope (mth 21 1), true⟩ 0 (defBody (mth 21 1)) c} := ⟨_, fun l k =>
  (sss_cons (ss_ret (SB.se (sb_and (Q.isi (Q.c1 (Q.v 1) (Q.c1 Q.g Q.c0))) (sb_one (se_eq (Q.fld (Q.v 0)) (Q.fld (Q.v 1)))))))
  sss_nil)⟩
def n_Paper__ne__ : List Str := ["self", "other"]
def p_Paper__ne__ : List Str := ["self", "other"]
noncomputable def c_Paper__ne__ : {c : Cs // ∀ (l : Lv) (k : Nat), SSs (semL none false l) k n_Paper__ne__ ⟨defScope (mth 21 2), true⟩ 0 (defBody (mth 21 2)) c} := ⟨_, fun l k =>
  (sss_cons (ss_ret (se_not (se_eq (Q.v 0) (Q.v 1))))
  sss_nil)⟩
def n__law_pen : List Str := ["script", "fold", "cell"]
def p__law_pen : List Str := ["script"]
noncomputable def c__law_pen : {c : Cs // ∀ (l : Lv) (k : Nat), SSs (semL none false l) k n__law_pen ⟨defScope (top 23), true⟩ 0 (defBody (top 23)) c} := ⟨_, fun l k =>
  (sss_cons (Q.asg Q.i (Q.tv 1))
  (sss_cons (Q.for_ (si_seq (Q.v 0)) (Q.tv 2) (sss_cons (Q.asg (se_mod (Q.int (Q.c1 (se_add (se_mul (Q.v 1) Q.i) (Q.v 2)) Q.c0)) Q.i) (Q.tv 1))
  sss_nil))
  (sss_cons (ss_ret (Q.dict (sp_cons (Q.list (Q.c1 (Q.v 0) Q.c0)) (sp_cons Q.i (sp_cons Q.i (sp_cons Q.i (sp_cons (Q.v 1) sp_nil)))))))
  sss_nil)))⟩
def n__law_draw : List Str := ["pen", "many", "cell", "digit", "blend"]
def p__law_draw : List Str := ["pen", "many"]
noncomputable def c__law_draw : {c : Cs // ∀ (l : Lv) (k : Nat), SSs (semL none false l) k n__law_draw ⟨defScope (top 24), true⟩ 0 (defBody (top 24)) c} := ⟨_, fun l k =>
  (sss_cons (Q.asg (se_add (Q.idx (Q.v 0) Q.s) Q.i) (Q.tsub (Q.v 0) Q.s))
  (sss_cons (ss_if (SB.se (sb_and (se_eq (Q.idx (Q.v 0) Q.s) Q.i) (sb_one (se_lt (Q.idx (Q.v 0) Q.s) (Q.len (Q.c1 (Q.idx (Q.v 0) Q.s) Q.c0)))))) (sss_cons (Q.asg (Q.idx (Q.idx (Q.v 0) Q.s) (Q.idx (Q.v 0) Q.s)) (Q.tv 2))
  (sss_cons (Q.asg (se_add (Q.idx (Q.v 0) Q.s) Q.i) (Q.tsub (Q.v 0) Q.s))
  (sss_cons (ss_if (se_ge (Q.v 2) (se_pow Q.i Q.i)) (sss_cons (Q.asg (se_sub (Q.v 2) (se_pow Q.i Q.i)) (Q.tsub (Q.v 0) Q.s))
  sss_nil) (sss_cons (Q.asg (se_mod (Q.int (Q.c1 (se_add (se_mul (Q.idx (Q.v 0) Q.s) Q.i) (Q.v 2)) Q.c0)) Q.i) (Q.tsub (Q.v 0) Q.s))
  sss_nil))
  sss_nil))) sss_nil)
  (sss_cons (ss_if (se_gt (Q.idx (Q.v 0) Q.s) Q.i) (sss_cons (Q.asg (se_mod (Q.int (Q.c1 (Q.idx (Q.v 0) Q.s) Q.c0)) (Q.v 1)) (Q.tv 3))
  (sss_cons (Q.asg (se_div (Q.idx (Q.v 0) Q.s) (Q.v 1)) (Q.tsub (Q.v 0) Q.s))
  (sss_cons (ss_ret (Q.v 3))
  sss_nil))) sss_nil)
  (sss_cons (Q.asg (se_add (se_add (Q.idx (Q.v 0) Q.s) (se_mul (Q.idx (Q.v 0) Q.s) Q.i)) Q.i) (Q.tv 4))
  (sss_cons (ss_ret (se_mod (se_div (Q.int (Q.c1 (se_mod (se_pow (Q.v 4) Q.i) Q.i) Q.c0)) Q.i) (Q.v 1)))
  sss_nil)))))⟩
def n__law_pick : List Str := ["pen", "some"]
def p__law_pick : List Str := ["pen", "some"]
noncomputable def c__law_pick : {c : Cs // ∀ (l : Lv) (k : Nat), SSs (semL none false l) k n__law_pick ⟨defScope (top 25), true⟩ 0 (defBody (top 25)) c} := ⟨_, fun l k =>
  (sss_cons (ss_ret (Q.idx (Q.v 1) (Q.call (Q.c1 (Q.v 0) (Q.c1 (Q.len (Q.c1 (Q.v 1) Q.c0)) Q.c0)))))
  sss_nil)⟩
def n__law_value : List Str := ["pen"]
def p__law_value : List Str := ["pen"]
noncomputable def c__law_value : {c : Cs // ∀ (l : Lv) (k : Nat), SSs (semL none false l) k n__law_value ⟨defScope (top 26), true⟩ 0 (defBody (top 26)) c} := ⟨_, fun l k =>
  (sss_cons (ss_ret (Q.call (Q.c1 (Q.v 0) (Q.c1 (se_lst (Q.c1 (se_tup (Q.c1 Q.i (Q.c1 Q.i Q.c0))) (Q.c1 (se_lst (Q.c1 Q.i (Q.c1 (se_tup (Q.c1 Q.i Q.c0)) Q.c0))) (Q.c1 (se_tup Q.c0) (Q.c1 (se_lst Q.c0) (Q.c1 Q.s (Q.c1 Q.i (Q.c1 Q.n (Q.c1 (se_tup (Q.c1 (se_tup (Q.c1 Q.s (Q.c1 Q.i Q.c0))) Q.c0)) (Q.c1 (se_lst (Q.c1 (se_lst (Q.c1 Q.i Q.c0)) Q.c0)) (Q.c1 Q.i Q.c0))))))))))) Q.c0))))
  sss_nil)⟩
def n__law_copy : List Str := ["value"]
def p__law_copy : List Str := ["value"]
noncomputable def c__law_copy : {c : Cs // ∀ (l : Lv) (k : Nat), SSs (semL none false l) k n__law_copy ⟨defScope (top 27), true⟩ 0 (defBody (top 27)) c} := ⟨_, fun l k =>
  (sss_cons (ss_ret (se_ite (Q.isi (Q.c1 (Q.v 0) (Q.c1 (Q.ty "list" boot_list) Q.c0))) (Q.tuple (Q.c1 (Q.v 0) Q.c0)) (Q.v 0)))
  sss_nil)⟩
def n__law_model_fields : List Str := ["one"]
def p__law_model_fields : List Str := ["one"]
noncomputable def c__law_model_fields : {c : Cs // ∀ (l : Lv) (k : Nat), SSs (semL none false l) k n__law_model_fields ⟨defScope (top 28), true⟩ 0 (defBody (top 28)) c} := ⟨_, fun l k =>
  (sss_cons (ss_ret (se_tup (Q.c1 (Q.fld (Q.v 0)) (Q.c1 (Q.fld (Q.v 0)) (Q.c1 (Q.fld (Q.v 0)) (Q.c1 (Q.fld (Q.v 0)) (Q.c1 (Q.fld (Q.v 0)) Q.c0)))))))
  sss_nil)⟩
def n__law_rows : List Str := ["a", "b", "c", "d", "rows"]
def p__law_rows : List Str := ["a", "b", "c", "d"]
noncomputable def c__law_rows : {c : Cs // ∀ (l : Lv) (k : Nat), SSs (semL (some "_law_rows") false l) k n__law_rows ⟨defScope (top 29), true⟩ 0 (defBody (top 29)) c} := ⟨_, fun l k =>
  (sss_cons (Q.asg (se_lst (Q.c1 (se_tup (Q.c1 (Q.make (Q.c1 (Q.v 0) Q.c0)) (Q.c1 (Q.makeK (perm := [0]) (sk_cons (Q.v 0) sk_nil) (by kernel_rfl)) (Q.c1 (se_tup (Q.c1 (Q.v 0) Q.c0)) (Q.c1 (Q.lam 0) Q.c0))))) Q.c0)) (Q.tv 4))
  (sss_cons (Q.expr (Q.append (Q.v 4) (Q.c1 (se_tup (Q.c1 (Q.make (Q.c1 (Q.v 0) Q.c0)) (Q.c1 (Q.makeK (perm := [0]) (sk_cons (Q.v 0) sk_nil) (by kernel_rfl)) (Q.c1 (se_tup (Q.c1 (Q.v 0) Q.c0)) (Q.c1 (Q.lam 1) Q.c0))))) Q.c0)))
  (sss_cons (Q.expr (Q.append (Q.v 4) (Q.c1 (se_tup (Q.c1 (Q.make (Q.c1 (Q.v 1) Q.c0)) (Q.c1 (Q.makeK (perm := [0]) (sk_cons (Q.v 1) sk_nil) (by kernel_rfl)) (Q.c1 (se_tup (Q.c1 (Q.v 1) Q.c0)) (Q.c1 (Q.lam 2) Q.c0))))) Q.c0)))
  (sss_cons (Q.expr (Q.append (Q.v 4) (Q.c1 (se_tup (Q.c1 (Q.make (Q.c1 (Q.v 0) (Q.c1 (Q.v 1) Q.c0))) (Q.c1 (Q.makeK (perm := [1,0]) (sk_cons (Q.v 1) (sk_cons (Q.v 0) sk_nil)) (by kernel_rfl)) (Q.c1 (se_tup (Q.c1 (Q.v 0) (Q.c1 (Q.v 1) Q.c0))) (Q.c1 (Q.lam 3) Q.c0))))) Q.c0)))
  (sss_cons (Q.expr (Q.append (Q.v 4) (Q.c1 (se_tup (Q.c1 (Q.make (Q.c1 (Q.v 2) Q.c0)) (Q.c1 (Q.makeK (perm := [0]) (sk_cons (Q.v 2) sk_nil) (by kernel_rfl)) (Q.c1 (se_tup (Q.c1 (Q.v 2) Q.c0)) (Q.c1 (Q.lam 4) Q.c0))))) Q.c0)))
  (sss_cons (Q.expr (Q.append (Q.v 4) (Q.c1 (se_tup (Q.c1 (Q.make (Q.c1 (Q.v 0) (Q.c1 (Q.v 1) Q.c0))) (Q.c1 (Q.makeK (perm := [1,0]) (sk_cons (Q.v 1) (sk_cons (Q.v 0) sk_nil)) (by kernel_rfl)) (Q.c1 (se_tup (Q.c1 (Q.v 0) (Q.c1 (Q.v 1) Q.c0))) (Q.c1 (Q.lam 5) Q.c0))))) Q.c0)))
  (sss_cons (Q.expr (Q.append (Q.v 4) (Q.c1 (se_tup (Q.c1 (Q.make (Q.c1 (Q.v 3) Q.c0)) (Q.c1 (Q.makeK (perm := [0]) (sk_cons (Q.v 3) sk_nil) (by kernel_rfl)) (Q.c1 (se_tup (Q.c1 (Q.v 3) Q.c0)) (Q.c1 (Q.lam 6) Q.c0))))) Q.c0)))
  (sss_cons (Q.expr (Q.append (Q.v 4) (Q.c1 (se_tup (Q.c1 (Q.make (Q.c1 (Q.v 3) Q.c0)) (Q.c1 (Q.makeK (perm := [0]) (sk_cons (Q.v 3) sk_nil) (by kernel_rfl)) (Q.c1 (se_tup (Q.c1 (Q.v 3) Q.c0)) (Q.c1 (Q.lam 7) Q.c0))))) Q.c0)))
  (sss_cons (Q.expr (Q.append (Q.v 4) (Q.c1 (se_tup (Q.c1 (Q.make (Q.c1 (Q.v 2) Q.c0)) (Q.c1 (Q.makeK (perm := [0]) (sk_cons (Q.v 2) sk_nil) (by kernel_rfl)) (Q.c1 (se_tup (Q.c1 (Q.v 2) Q.c0)) (Q.c1 (Q.lam 8) Q.c0))))) Q.c0)))
  (sss_cons (Q.expr (Q.append (Q.v 4) (Q.c1 (se_tup (Q.c1 (Q.make (Q.c1 (Q.v 2) Q.c0)) (Q.c1 (Q.makeK (perm := [0]) (sk_cons (Q.v 2) sk_nil) (by kernel_rfl)) (Q.c1 (se_tup (Q.c1 (Q.v 2) Q.c0)) (Q.c1 (Q.lam 9) Q.c0))))) Q.c0)))
  (sss_cons (Q.expr (Q.append (Q.v 4) (Q.c1 (se_tup (Q.c1 (Q.make (Q.c1 (Q.v 3) Q.c0)) (Q.c1 (Q.makeK (perm := [0]) (sk_cons (Q.v 3) sk_nil) (by kernel_rfl)) (Q.c1 (se_tup (Q.c1 (Q.v 3) Q.c0)) (Q.c1 (Q.lam 10) Q.c0))))) Q.c0)))
  (sss_cons (Q.expr (Q.append (Q.v 4) (Q.c1 (se_tup (Q.c1 (Q.make (Q.c1 (Q.v 0) Q.c0)) (Q.c1 (Q.makeK (perm := [0]) (sk_cons (Q.v 0) sk_nil) (by kernel_rfl)) (Q.c1 (se_tup (Q.c1 (Q.v 0) Q.c0)) (Q.c1 (Q.lam 11) Q.c0))))) Q.c0)))
  (sss_cons (Q.expr (Q.append (Q.v 4) (Q.c1 (se_tup (Q.c1 (Q.make (Q.c1 (Q.v 0) Q.c0)) (Q.c1 (Q.makeK (perm := [0]) (sk_cons (Q.v 0) sk_nil) (by kernel_rfl)) (Q.c1 (se_tup (Q.c1 (Q.v 0) Q.c0)) (Q.c1 (Q.lam 12) Q.c0))))) Q.c0)))
  (sss_cons (Q.expr (Q.append (Q.v 4) (Q.c1 (se_tup (Q.c1 (Q.make (Q.c1 (Q.v 0) (Q.c1 (Q.v 1) Q.c0))) (Q.c1 (Q.makeK (perm := [1,0]) (sk_cons (Q.v 1) (sk_cons (Q.v 0) sk_nil)) (by kernel_rfl)) (Q.c1 (se_tup (Q.c1 (Q.v 0) (Q.c1 (Q.v 1) Q.c0))) (Q.c1 (Q.lam 13) Q.c0))))) Q.c0)))
  (sss_cons (Q.expr (Q.append (Q.v 4) (Q.c1 (se_tup (Q.c1 (Q.make (Q.c1 (Q.v 0) (Q.c1 (Q.v 1) (Q.c1 (Q.v 2) (Q.c1 (Q.v 3) (Q.c1 Q.i Q.c0)))))) (Q.c1 (Q.makeK (perm := [4,3,2,1,0]) (sk_cons Q.i (sk_cons (Q.v 3) (sk_cons (Q.v 2) (sk_cons (Q.v 1) (sk_cons (Q.v 0) sk_nil))))) (by kernel_rfl)) (Q.c1 (se_tup (Q.c1 (Q.v 0) (Q.c1 (Q.v 1) (Q.c1 (Q.v 2) (Q.c1 (Q.v 3) (Q.c1 Q.i Q.c0)))))) (Q.c1 Q.g Q.c0))))) Q.c0)))
  (sss_cons (Q.expr (Q.append (Q.v 4) (Q.c1 (se_tup (Q.c1 Q.make0 (Q.c1 Q.make0 (Q.c1 (se_tup Q.c0) (Q.c1 (Q.lam 14) Q.c0))))) Q.c0)))
  (sss_cons (ss_ret (Q.v 4))
  sss_nil)))))))))))))))))⟩
def n__law_unlike : List Str := ["rows"]
def p__law_unlike : List Str := []
noncomputable def c__law_unlike : {c : Cs // ∀ (l : Lv) (k : Nat), SSs (semL none false l) k n__law_unlike ⟨defScope (top 30), true⟩ 0 (defBody (top 30)) c} := ⟨_, fun l k =>
  (sss_cons (Q.asg (se_lst (Q.c1 (se_tup (Q.c1 (Q.make (Q.c1 Q.i Q.c0)) (Q.c1 (Q.make (Q.c1 Q.i Q.c0)) Q.c0))) (Q.c1 (se_tup (Q.c1 (Q.make (Q.c1 Q.i Q.c0)) (Q.c1 (Q.make (Q.c1 Q.i Q.c0)) Q.c0))) (Q.c1 (se_tup (Q.c1 (Q.make (Q.c1 Q.i Q.c0)) (Q.c1 (Q.make (Q.c1 Q.i Q.c0)) Q.c0))) (Q.c1 (se_tup (Q.c1 (Q.make (Q.c1 Q.i (Q.c1 Q.i Q.c0))) (Q.c1 (Q.make (Q.c1 Q.i (Q.c1 Q.i Q.c0))) Q.c0))) (Q.c1 (se_tup (Q.c1 (Q.make (Q.c1 Q.i (Q.c1 Q.i Q.c0))) (Q.c1 (Q.make (Q.c1 Q.i (Q.c1 Q.i Q.c0))) Q.c0))) Q.c0)))))) (Q.tv 0))
  (sss_cons (Q.asg (se_add (Q.v 0) (se_lst (Q.c1 (se_tup (Q.c1 (Q.make (Q.c1 Q.i Q.c0)) (Q.c1 (Q.make (Q.c1 Q.i Q.c0)) Q.c0))) (Q.c1 (se_tup (Q.c1 (Q.make (Q.c1 Q.i (Q.c1 Q.i Q.c0))) (Q.c1 (Q.make (Q.c1 Q.i (Q.c1 Q.i Q.c0))) Q.c0))) (Q.c1 (se_tup (Q.c1 (Q.make (Q.c1 Q.i (Q.c1 Q.i Q.c0))) (Q.c1 (Q.make (Q.c1 Q.i (Q.c1 Q.i Q.c0))) Q.c0))) (Q.c1 (se_tup (Q.c1 (Q.make (Q.c1 Q.i Q.c0)) (Q.c1 (Q.make (Q.c1 Q.i Q.c0)) Q.c0))) (Q.c1 (se_tup (Q.c1 (Q.make (Q.c1 Q.i Q.c0)) (Q.c1 (Q.make (Q.c1 Q.i Q.c0)) Q.c0))) Q.c0))))))) (Q.tv 0))
  (sss_cons (Q.asg (se_add (Q.v 0) (se_lst (Q.c1 (se_tup (Q.c1 (Q.make (Q.c1 Q.i Q.c0)) (Q.c1 (Q.make (Q.c1 Q.i Q.c0)) Q.c0))) (Q.c1 (se_tup (Q.c1 (Q.make (Q.c1 Q.i Q.c0)) (Q.c1 (Q.make (Q.c1 Q.i Q.c0)) Q.c0))) (Q.c1 (se_tup (Q.c1 (Q.make (Q.c1 Q.i Q.c0)) (Q.c1 (Q.make (Q.c1 Q.i Q.c0)) Q.c0))) (Q.c1 (se_tup (Q.c1 (Q.make (Q.c1 Q.i Q.c0)) (Q.c1 (Q.make (Q.c1 Q.i Q.c0)) Q.c0))) (Q.c1 (se_tup (Q.c1 (Q.make (Q.c1 Q.i Q.c0)) (Q.c1 (Q.make (Q.c1 Q.i Q.c0)) Q.c0))) Q.c0))))))) (Q.tv 0))
  (sss_cons (Q.asg (se_add (Q.v 0) (se_lst (Q.c1 (se_tup (Q.c1 (Q.make (Q.c1 Q.i (Q.c1 Q.i (Q.c1 Q.i (Q.c1 Q.i (Q.c1 Q.i Q.c0)))))) (Q.c1 (Q.make (Q.c1 Q.i (Q.c1 Q.i (Q.c1 Q.i (Q.c1 Q.i (Q.c1 Q.i Q.c0)))))) Q.c0))) (Q.c1 (se_tup (Q.c1 (Q.make (Q.c1 Q.i (Q.c1 Q.i (Q.c1 Q.i (Q.c1 Q.i (Q.c1 Q.i Q.c0)))))) (Q.c1 (Q.make (Q.c1 Q.i (Q.c1 Q.i (Q.c1 Q.i (Q.c1 Q.i (Q.c1 Q.i Q.c0)))))) Q.c0))) (Q.c1 (se_tup (Q.c1 (Q.make (Q.c1 Q.i (Q.c1 Q.i (Q.c1 Q.i (Q.c1 Q.i (Q.c1 Q.i Q.c0)))))) (Q.c1 (Q.make (Q.c1 Q.i (Q.c1 Q.i (Q.c1 Q.i (Q.c1 Q.i (Q.c1 Q.i Q.c0)))))) Q.c0))) Q.c0))))) (Q.tv 0))
  (sss_cons (Q.asg (se_add (Q.v 0) (se_lst (Q.c1 (se_tup (Q.c1 (Q.make (Q.c1 Q.i (Q.c1 Q.i Q.c0))) (Q.c1 (Q.make (Q.c1 Q.i (Q.c1 Q.i Q.c0))) Q.c0))) (Q.c1 (se_tup (Q.c1 (Q.make (Q.c1 Q.i (Q.c1 Q.i Q.c0))) (Q.c1 (Q.make (Q.c1 Q.i (Q.c1 Q.i Q.c0))) Q.c0))) (Q.c1 (se_tup (Q.c1 (Q.make (Q.c1 Q.i (Q.c1 Q.i (Q.c1 Q.i (Q.c1 Q.i (Q.c1 Q.i Q.c0)))))) (Q.c1 (Q.make (Q.c1 Q.i (Q.c1 Q.i (Q.c1 Q.i (Q.c1 Q.i (Q.c1 Q.i (Q.c1 (se_tup (Q.c1 Q.i Q.c0)) Q.c0))))))) Q.c0))) Q.c0))))) (Q.tv 0))
  (sss_cons (ss_ret (se_add (Q.v 0) (se_lst (Q.c1 (se_tup (Q.c1 (Q.make (Q.c1 Q.i (Q.c1 Q.i (Q.c1 Q.i (Q.c1 Q.i (Q.c1 Q.i Q.c0)))))) (Q.c1 (Q.make (Q.c1 Q.i (Q.c1 Q.i (Q.c1 Q.i (Q.c1 Q.i (Q.c1 Q.i Q.c0)))))) Q.c0))) (Q.c1 (se_tup (Q.c1 (Q.make (Q.c1 Q.i (Q.c1 Q.i (Q.c1 Q.i (Q.c1 Q.i (Q.c1 Q.i Q.c0)))))) (Q.c1 (Q.make (Q.c1 Q.i (Q.c1 Q.i (Q.c1 Q.i (Q.c1 Q.i (Q.c1 Q.i Q.c0)))))) Q.c0))) Q.c0)))))
  sss_nil))))))⟩
def n_law : List Str := ["script", "pen", "values", "k", "a", "b", "c", "d", "value", "rows", "one", "two", "handed", "fields", "due", "other", "before"]
def p_law : List Str := ["script"]
noncomputable def c_law : {c : Cs // ∀ (l : Lv) (k : Nat), SSs (semL none true l) k n_law ⟨defScope (top 31), true⟩ 0 (defBody (top 31)) c} := ⟨_, fun l k =>
  (sss_cons (Q.asg (Q.call (Q.c1 (Q.v 0) Q.c0)) (Q.tv 1))
  (sss_cons (Q.asgLc 2 [("k", 3)] (Q.tv 3) (Q.r1 (Q.c1 Q.i Q.c0)) scd_nil (Q.call (Q.c1 (Q.v 1) Q.c0)))
  (sss_cons (Q.asg (Q.lc [("value", 8)] (Q.tv 8) (si_seq (Q.v 2)) scd_nil (se_ite (Q.isi (Q.c1 (Q.v 8) (Q.c1 (Q.ty "list" boot_list) Q.c0))) (Q.list (Q.c1 (Q.v 8) Q.c0)) (Q.v 8))) (Q.tt (Q.t1 (Q.tv 4) (Q.t1 (Q.tv 5) (Q.t1 (Q.tv 6) (Q.t1 (Q.tv 7) sts_nil))))))
  (sss_cons (Q.asg (Q.call (Q.c1 (Q.v 4) (Q.c1 (Q.v 5) (Q.c1 (Q.v 6) (Q.c1 (Q.v 7) Q.c0))))) (Q.tv 9))
  (sss_cons (Q.for_ (si_seq (Q.v 9)) (Q.tt (Q.t1 (Q.tv 10) (Q.t1 (Q.tv 11) (Q.t1 (Q.tv 12) (Q.t1 (Q.tv 13) sts_nil))))) (sss_cons (Q.asg (Q.repr (Q.c1 (Q.tuple (Q.c1 (Q.lc [("value", 8)] (Q.tv 8) (si_seq (Q.v 12)) scd_nil (Q.call (Q.c1 (Q.v 8) Q.c0))) Q.c0)) Q.c0)) (Q.tv 14))
  (sss_cons (ss_if (SB.se (sb_or (se_ne (Q.repr (Q.c1 (Q.callv 13 (Q.c1 (Q.v 10) Q.c0)) Q.c0)) (Q.v 14)) (sb_or (se_ne (Q.repr (Q.c1 (Q.callv 13 (Q.c1 (Q.v 11) Q.c0)) Q.c0)) (Q.v 14)) (sb_or (se_ne (Q.v 10) (Q.v 11)) (sb_one (se_not (se_eq (Q.v 10) (Q.v 11)))))))) (sss_cons (ss_ret Q.bl)
  sss_nil) sss_nil)
  sss_nil)))
  (sss_cons (Q.for_ (Q.r1 (Q.c1 (Q.len (Q.c1 (Q.v 9) Q.c0)) Q.c0)) (Q.tv 3) (sss_cons (Q.asg (Q.idx (Q.idx (Q.v 9) (se_mod (Q.int (Q.c1 (se_add (se_add (Q.v 3) Q.i) (Q.call (Q.c1 (Q.v 1) (Q.c1 (se_sub (Q.len (Q.c1 (Q.v 9) Q.c0)) Q.i) Q.c0)))) Q.c0)) (Q.len (Q.c1 (Q.v 9) Q.c0)))) Q.i) (Q.tv 15))
  (sss_cons (ss_if (SB.se (sb_or (se_eq (Q.idx (Q.idx (Q.v 9) (Q.v 3)) Q.i) (Q.v 15)) (sb_one (se_not (se_ne (Q.idx (Q.idx (Q.v 9) (Q.v 3)) Q.i) (Q.v 15)))))) (sss_cons (ss_ret Q.bl)
  sss_nil) sss_nil)
  sss_nil)))
  (sss_cons (ss_if (Q.any (Q.c1 (Q.lc [("one", 10),("two", 11)] (Q.tt (Q.t1 (Q.tv 10) (Q.t1 (Q.tv 11) sts_nil))) (si_seq Q.call0) scd_nil (SB.se (sb_or (se_eq (Q.v 10) (Q.v 11)) (sb_one (se_not (se_ne (Q.v 10) (Q.v 11))))))) Q.c0)) (sss_cons (ss_ret Q.bl)
  sss_nil) sss_nil)
  (sss_cons (Q.asg (Q.repr (Q.c1 (Q.fld (Q.idx (Q.idx (Q.v 9) Q.i) Q.i)) Q.c0)) (Q.tv 16))
  (sss_cons (ss_if (Q.isi (Q.c1 (Q.v 4) (Q.c1 (Q.ty "list" boot_list) Q.c0))) (sss_cons (Q.expr (Q.append (Q.v 4) (Q.c1 Q.i Q.c0)))
  sss_nil) sss_nil)
  (sss_cons (ss_ret (se_eq (Q.repr (Q.c1 (Q.fld (Q.idx (Q.idx (Q.v 9) Q.i) Q.i)) Q.c0)) (Q.v 16)))
  sss_nil))))))))))⟩
noncomputable def l_0 : {c : E // ∀ (l : Lv) (k : Nat), SE (semL none false l) k ["one"] ⟨(lamA 0).2.2, true⟩ (lamA 0).2.1 c} := ⟨_, fun l k =>
  (se_tup (Q.c1 (Q.fld (Q.v 0)) Q.c0))⟩
noncomputable def l_1 : {c : E // ∀ (l : Lv) (k : Nat), SE (semL none false l) k ["one"] ⟨(lamA 1).2.2, true⟩ (lamA 1).2.1 c} := ⟨_, fun l k =>
  (se_tup (Q.c1 (Q.fld (Q.v 0)) Q.c0))⟩
noncomputable def l_2 : {c : E // ∀ (l : Lv) (k : Nat), SE (semL none false l) k ["one"] ⟨(lamA 2).2.2, true⟩ (lamA 2).2.1 c} := ⟨_, fun l k =>
  (se_tup (Q.c1 (Q.fld (Q.v 0)) Q.c0))⟩
noncomputable def l_3 : {c : E // ∀ (l : Lv) (k : Nat), SE (semL none false l) k ["one"] ⟨(lamA 3).2.2, true⟩ (lamA 3).2.1 c} := ⟨_, fun l k =>
  (se_tup (Q.c1 (Q.fld (Q.v 0)) (Q.c1 (Q.fld (Q.v 0)) Q.c0)))⟩
noncomputable def l_4 : {c : E // ∀ (l : Lv) (k : Nat), SE (semL none false l) k ["one"] ⟨(lamA 4).2.2, true⟩ (lamA 4).2.1 c} := ⟨_, fun l k =>
  (se_tup (Q.c1 (Q.fld (Q.v 0)) Q.c0))⟩
noncomputable def l_5 : {c : E // ∀ (l : Lv) (k : Nat), SE (semL none false l) k ["one"] ⟨(lamA 5).2.2, true⟩ (lamA 5).2.1 c} := ⟨_, fun l k =>
  (se_tup (Q.c1 (Q.fld (Q.v 0)) (Q.c1 (Q.fld (Q.v 0)) Q.c0)))⟩
noncomputable def l_6 : {c : E // ∀ (l : Lv) (k : Nat), SE (semL none false l) k ["one"] ⟨(lamA 6).2.2, true⟩ (lamA 6).2.1 c} := ⟨_, fun l k =>
  (se_tup (Q.c1 (Q.fld (Q.v 0)) Q.c0))⟩
noncomputable def l_7 : {c : E // ∀ (l : Lv) (k : Nat), SE (semL none false l) k ["one"] ⟨(lamA 7).2.2, true⟩ (lamA 7).2.1 c} := ⟨_, fun l k =>
  (se_tup (Q.c1 (Q.fld (Q.v 0)) Q.c0))⟩
noncomputable def l_8 : {c : E // ∀ (l : Lv) (k : Nat), SE (semL none false l) k ["one"] ⟨(lamA 8).2.2, true⟩ (lamA 8).2.1 c} := ⟨_, fun l k =>
  (se_tup (Q.c1 (Q.fld (Q.v 0)) Q.c0))⟩
noncomputable def l_9 : {c : E // ∀ (l : Lv) (k : Nat), SE (semL none false l) k ["one"] ⟨(lamA 9).2.2, true⟩ (lamA 9).2.1 c} := ⟨_, fun l k =>
  (se_tup (Q.c1 (Q.fld (Q.v 0)) Q.c0))⟩
noncomputable def l_10 : {c : E // ∀ (l : Lv) (k : Nat), SE (semL none false l) k ["one"] ⟨(lamA 10).2.2, true⟩ (lamA 10).2.1 c} := ⟨_, fun l k =>
  (se_tup (Q.c1 (Q.fld (Q.v 0)) Q.c0))⟩
noncomputable def l_11 : {c : E // ∀ (l : Lv) (k : Nat), SE (semL none false l) k ["one"] ⟨(lamA 11).2.2, true⟩ (lamA 11).2.1 c} := ⟨_, fun l k =>
  (se_tup (Q.c1 (Q.fld (Q.v 0)) Q.c0))⟩
noncomputable def l_12 : {c : E // ∀ (l : Lv) (k : Nat), SE (semL none false l) k ["one"] ⟨(lamA 12).2.2, true⟩ (lamA 12).2.1 c} := ⟨_, fun l k =>
  (se_tup (Q.c1 (Q.fld (Q.v 0)) Q.c0))⟩
noncomputable def l_13 : {c : E // ∀ (l : Lv) (k : Nat), SE (semL none false l) k ["one"] ⟨(lamA 13).2.2, true⟩ (lamA 13).2.1 c} := ⟨_, fun l k =>
  (se_tup (Q.c1 (Q.fld (Q.v 0)) (Q.c1 (Q.fld (Q.v 0)) Q.c0)))⟩
noncomputable def l_14 : {c : E // ∀ (l : Lv) (k : Nat), SE (semL none false l) k ["one"] ⟨(lamA 14).2.2, true⟩ (lamA 14).2.1 c} := ⟨_, fun l k =>
  (se_tup Q.c0)⟩
def fn90 : List He.DefD := [
  ⟨("copied", none), "copied", "copied", defArgs (top 1), defBody (top 1), defScope (top 1), [], []⟩,
  ⟨("model_key", none), "model_key", "model_key", defArgs (top 19), defBody (top 19), defScope (top 19), [], []⟩,
  ⟨("_law_pen", none), "_law_pen", "_law_pen", defArgs (top 23), defBody (top 23), defScope (top 23), [], []⟩,
  ⟨("_law_draw", none), "_law_draw", "_law_draw", defArgs (top 24), defBody (top 24), defScope (top 24), [], []⟩,
  ⟨("_law_pick", none), "_law_pick", "_law_pick", defArgs (top 25), defBody (top 25), defScope (top 25), [], []⟩,
  ⟨("_law_value", none), "_law_value", "_law_value", defArgs (top 26), defBody (top 26), defScope (top 26), [], []⟩,
  ⟨("_law_copy", none), "_law_copy", "_law_copy", defArgs (top 27), defBody (top 27), defScope (top 27), [], []⟩,
  ⟨("_law_model_fields", none), "_law_model_fields", "_law_model_fields", defArgs (top 28), defBody (top 28), defScope (top 28), [], []⟩,
  ⟨("_law_rows", none), "_law_rows", "_law_rows", defArgs (top 29), defBody (top 29), defScope (top 29), [], []⟩,
  ⟨("_law_unlike", none), "_law_unlike", "_law_unlike", defArgs (top 30), defBody (top 30), defScope (top 30), [], []⟩,
  ⟨("law", none), "law", "law", defArgs (top 31), defBody (top 31), defScope (top 31), [], []⟩,
  ⟨("Stresses", some "__init__"), "__init__", "Stresses.__init__", defArgs (mth 3 0), defBody (mth 3 0), defScope (mth 3 0), [], []⟩,
  ⟨("Stresses", some "__eq__"), "__eq__", "Stresses.__eq__", defArgs (mth 3 1), defBody (mth 3 1), defScope (mth 3 1), [], []⟩,
  ⟨("Stresses", some "__ne__"), "__ne__", "Stresses.__ne__", defArgs (mth 3 2), defBody (mth 3 2), defScope (mth 3 2), [], []⟩,
  ⟨("Stills", some "__init__"), "__init__", "Stills.__init__", defArgs (mth 4 0), defBody (mth 4 0), defScope (mth 4 0), [], []⟩,
  ⟨("Stills", some "__eq__"), "__eq__", "Stills.__eq__", defArgs (mth 4 1), defBody (mth 4 1), defScope (mth 4 1), [], []⟩,
  ⟨("Stills", some "__ne__"), "__ne__", "Stills.__ne__", defArgs (mth 4 2), defBody (mth 4 2), defScope (mth 4 2), [], []⟩,
  ⟨("Carries", some "__init__"), "__init__", "Carries.__init__", defArgs (mth 5 0), defBody (mth 5 0), defScope (mth 5 0), [], []⟩,
  ⟨("Carries", some "__eq__"), "__eq__", "Carries.__eq__", defArgs (mth 5 1), defBody (mth 5 1), defScope (mth 5 1), [], []⟩,
  ⟨("Carries", some "__ne__"), "__ne__", "Carries.__ne__", defArgs (mth 5 2), defBody (mth 5 2), defScope (mth 5 2), [], []⟩,
  ⟨("Yields", some "__init__"), "__init__", "Yields.__init__", defArgs (mth 6 0), defBody (mth 6 0), defScope (mth 6 0), [], []⟩,
  ⟨("Yields", some "__eq__"), "__eq__", "Yields.__eq__", defArgs (mth 6 1), defBody (mth 6 1), defScope (mth 6 1), [], []⟩,
  ⟨("Yields", some "__ne__"), "__ne__", "Yields.__ne__", defArgs (mth 6 2), defBody (mth 6 2), defScope (mth 6 2), [], []⟩,
  ⟨("Factor", some "__init__"), "__init__", "Factor.__init__", defArgs (mth 7 0), defBody (mth 7 0), defScope (mth 7 0), [], []⟩,
  ⟨("Factor", some "__eq__"), "__eq__", "Factor.__eq__", defArgs (mth 7 1), defBody (mth 7 1), defScope (mth 7 1), [], []⟩,
  ⟨("Factor", some "__ne__"), "__ne__", "Factor.__ne__", defArgs (mth 7 2), defBody (mth 7 2), defScope (mth 7 2), [], []⟩,
  ⟨("Endless", some "__eq__"), "__eq__", "Endless.__eq__", defArgs (mth 8 0), defBody (mth 8 0), defScope (mth 8 0), [], []⟩,
  ⟨("Endless", some "__ne__"), "__ne__", "Endless.__ne__", defArgs (mth 8 1), defBody (mth 8 1), defScope (mth 8 1), [], []⟩,
  ⟨("Range", some "__init__"), "__init__", "Range.__init__", defArgs (mth 9 0), defBody (mth 9 0), defScope (mth 9 0), [], []⟩,
  ⟨("Range", some "__eq__"), "__eq__", "Range.__eq__", defArgs (mth 9 1), defBody (mth 9 1), defScope (mth 9 1), [], []⟩,
  ⟨("Range", some "__ne__"), "__ne__", "Range.__ne__", defArgs (mth 9 2), defBody (mth 9 2), defScope (mth 9 2), [], []⟩,
  ⟨("Moves", some "__init__"), "__init__", "Moves.__init__", defArgs (mth 10 0), defBody (mth 10 0), defScope (mth 10 0), [], []⟩,
  ⟨("Moves", some "__eq__"), "__eq__", "Moves.__eq__", defArgs (mth 10 1), defBody (mth 10 1), defScope (mth 10 1), [], []⟩,
  ⟨("Moves", some "__ne__"), "__ne__", "Moves.__ne__", defArgs (mth 10 2), defBody (mth 10 2), defScope (mth 10 2), [], []⟩,
  ⟨("Gives", some "__init__"), "__init__", "Gives.__init__", defArgs (mth 11 0), defBody (mth 11 0), defScope (mth 11 0), [], []⟩,
  ⟨("Gives", some "__eq__"), "__eq__", "Gives.__eq__", defArgs (mth 11 1), defBody (mth 11 1), defScope (mth 11 1), [], []⟩,
  ⟨("Gives", some "__ne__"), "__ne__", "Gives.__ne__", defArgs (mth 11 2), defBody (mth 11 2), defScope (mth 11 2), [], []⟩,
  ⟨("Moment", some "__init__"), "__init__", "Moment.__init__", defArgs (mth 12 0), defBody (mth 12 0), defScope (mth 12 0), [], []⟩,
  ⟨("Moment", some "__eq__"), "__eq__", "Moment.__eq__", defArgs (mth 12 1), defBody (mth 12 1), defScope (mth 12 1), [], []⟩,
  ⟨("Moment", some "__ne__"), "__ne__", "Moment.__ne__", defArgs (mth 12 2), defBody (mth 12 2), defScope (mth 12 2), [], []⟩,
  ⟨("Bends", some "__init__"), "__init__", "Bends.__init__", defArgs (mth 13 0), defBody (mth 13 0), defScope (mth 13 0), [], []⟩,
  ⟨("Bends", some "__eq__"), "__eq__", "Bends.__eq__", defArgs (mth 13 1), defBody (mth 13 1), defScope (mth 13 1), [], []⟩,
  ⟨("Bends", some "__ne__"), "__ne__", "Bends.__ne__", defArgs (mth 13 2), defBody (mth 13 2), defScope (mth 13 2), [], []⟩,
  ⟨("Loose", some "__init__"), "__init__", "Loose.__init__", defArgs (mth 14 0), defBody (mth 14 0), defScope (mth 14 0), [], []⟩,
  ⟨("Loose", some "__eq__"), "__eq__", "Loose.__eq__", defArgs (mth 14 1), defBody (mth 14 1), defScope (mth 14 1), [], []⟩,
  ⟨("Loose", some "__ne__"), "__ne__", "Loose.__ne__", defArgs (mth 14 2), defBody (mth 14 2), defScope (mth 14 2), [], []⟩,
  ⟨("Line", some "__init__"), "__init__", "Line.__init__", defArgs (mth 15 0), defBody (mth 15 0), defScope (mth 15 0), [], []⟩,
  ⟨("Line", some "__eq__"), "__eq__", "Line.__eq__", defArgs (mth 15 1), defBody (mth 15 1), defScope (mth 15 1), [], []⟩,
  ⟨("Line", some "__ne__"), "__ne__", "Line.__ne__", defArgs (mth 15 2), defBody (mth 15 2), defScope (mth 15 2), [], []⟩,
  ⟨("Design", some "__init__"), "__init__", "Design.__init__", defArgs (mth 16 0), defBody (mth 16 0), defScope (mth 16 0), [], []⟩,
  ⟨("Design", some "__eq__"), "__eq__", "Design.__eq__", defArgs (mth 16 1), defBody (mth 16 1), defScope (mth 16 1), [], []⟩,
  ⟨("Design", some "__ne__"), "__ne__", "Design.__ne__", defArgs (mth 16 2), defBody (mth 16 2), defScope (mth 16 2), [], []⟩,
  ⟨("Model", some "__init__"), "__init__", "Model.__init__", defArgs (mth 18 0), defBody (mth 18 0), defScope (mth 18 0), [.adr (He.dflAt ("Model", some "__init__") 0)], []⟩,
  ⟨("Model", some "__eq__"), "__eq__", "Model.__eq__", defArgs (mth 18 1), defBody (mth 18 1), defScope (mth 18 1), [], []⟩,
  ⟨("Model", some "__ne__"), "__ne__", "Model.__ne__", defArgs (mth 18 2), defBody (mth 18 2), defScope (mth 18 2), [], []⟩,
  ⟨("Paper", some "__init__"), "__init__", "Paper.__init__", defArgs (mth 21 0), defBody (mth 21 0), defScope (mth 21 0), [], []⟩,
  ⟨("Paper", some "__eq__"), "__eq__", "Paper.__eq__", defArgs (mth 21 1), defBody (mth 21 1), defScope (mth 21 1), [], []⟩,
  ⟨("Paper", some "__ne__"), "__ne__", "Paper.__ne__", defArgs (mth 21 2), defBody (mth 21 2), defScope (mth 21 2), [], []⟩]
def fns90 : List Str := ["copied", "model_key", "_law_pen", "_law_draw", "_law_pick", "_law_value", "_law_copy", "_law_model_fields", "_law_rows", "_law_unlike", "law"]
def fa90 : List He.Fa := (fns90 ++ cls90).map .glo ++ (blts.map .free ++ (cls90.map .cls ++ ((par90.flatMap fun p => p.2.map fun f => .noat p.1 f) ++ (par90.map (fun p => .mkr p.1) ++ (cls90.map (fun c => .meth c "__eq__") ++ (cls90.map (fun c => .meth c "__ne__") ++ cls90.map .keep))))))
def ex90 (K : PySem.W.Frag) : Bool := (cls90.all fun c => clsO K (He.ga K c) && He.eqO (PySem.W.findIn K (.ref (He.ga K c)) "__class__") (some (some (.builtin "object.__class__")))) && decide ((cls90.map (He.ga K)).Nodup) &&
  (PySem.W.makesIn K (He.ga K "Endless") && He.eqO (PySem.W.findIn K (.ref (He.ga K "Endless")) "__init__") (some (some (.builtin "object.__init__")))) &&
  (match K.lookup (He.dflAt ("Model", some "__init__") 0 K) with
    | some ⟨.type c, _, .seq its _, _⟩ => c == "tuple" && its.size == 0
    | _ => false)
abbrev LW : PySem.W.OpenLaw := PySem.Challenge.rw_beampapers_k90_classes_made_by_hand
abbrev R : PySem.W.OpenRow := PySem.W.OpenLaw.row PySem.Challenge.rw_beampapers_k90_classes_made_by_hand
def loose : List Str := PRG.boundNames.filter fun n => n != "law"
abbrev hk : PySem.W.Hook := hookP 5 fa90 fn90 ex90 ["_law_rows"]
def ob (s : PySem.W.SharedT) : AlP := obsP 5 fa90 fn90 ex90 ["_law_rows"] (HandSHeadRun.getT s)
theorem ob_eq (s : PySem.W.SharedT) : ob s = hk.obs s.abs := by
  have e : HandSHeadRun.getT s = s.abs.heap.get? := funext (HandSHeadRun.getT_eq s)
  show obsP 5 fa90 fn90 ex90 ["_law_rows"] (HandSHeadRun.getT s) = obsP 5 fa90 fn90 ex90 ["_law_rows"] s.abs.heap.get?
  rw [e]
structure Ent where
  N : List Str
  ps : List Str
  code : Cs
  here : Option Str
noncomputable def fnT : List (Str × Ent) := [("copied", ⟨n_copied, p_copied, c_copied.1, none⟩), ("model_key", ⟨n_model_key, p_model_key, c_model_key.1, none⟩), ("_law_pen", ⟨n__law_pen, p__law_pen, c__law_pen.1, none⟩), ("_law_draw", ⟨n__law_draw, p__law_draw, c__law_draw.1, none⟩), ("_law_pick", ⟨n__law_pick, p__law_pick, c__law_pick.1, none⟩), ("_law_value", ⟨n__law_value, p__law_value, c__law_value.1, none⟩), ("_law_copy", ⟨n__law_copy, p__law_copy, c__law_copy.1, none⟩), ("_law_model_fields", ⟨n__law_model_fields, p__law_model_fields, c__law_model_fields.1, none⟩), ("_law_rows", ⟨n__law_rows, p__law_rows, c__law_rows.1, (some "_law_rows")⟩), ("_law_unlike", ⟨n__law_unlike, p__law_unlike, c__law_unlike.1, none⟩)]
noncomputable def mtT : List ((Str × Str) × Ent) := [((("Stresses", "__init__") : Str × Str), ⟨n_Stresses__init__, p_Stresses__init__, c_Stresses__init__.1, none⟩), ((("Stresses", "__eq__") : Str × Str), ⟨n_Stresses__eq__, p_Stresses__eq__, c_Stresses__eq__.1, none⟩), ((("Stresses", "__ne__") : Str × Str), ⟨n_Stresses__ne__, p_Stresses__ne__, c_Stresses__ne__.1, none⟩), ((("Stills", "__init__") : Str × Str), ⟨n_Stills__init__, p_Stills__init__, c_Stills__init__.1, none⟩), ((("Stills", "__eq__") : Str × Str), ⟨n_Stills__eq__, p_Stills__eq__, c_Stills__eq__.1, none⟩), ((("Stills", "__ne__") : Str × Str), ⟨n_Stills__ne__, p_Stills__ne__, c_Stills__ne__.1, none⟩), ((("Carries", "__init__") : Str × Str), ⟨n_Carries__init__, p_Carries__init__, c_Carries__init__.1, none⟩), ((("Carries", "__eq__") : Str × Str), ⟨n_Carries__eq__, p_Carries__eq__, c_Carries__eq__.1, none⟩), ((("Carries", "__ne__") : Str × Str), ⟨n_Carries__ne__, p_Carries__ne__, c_Carries__ne__.1, none⟩), ((("Yields", "__init__") : Str × Str), ⟨n_Yields__init__, p_Yields__init__, c_Yields__init__.1, none⟩), ((("Yields", "__eq__") : Str × Str), ⟨n_Yields__eq__, p_Yields__eq__, c_Yields__eq__.1, none⟩), ((("Yields", "__ne__") : Str × Str), ⟨n_Yields__ne__, p_Yields__ne__, c_Yields__ne__.1, none⟩), ((("Factor", "__init__") : Str × Str), ⟨n_Factor__init__, p_Factor__init__, c_Factor__init__.1, none⟩), ((("Factor", "__eq__") : Str × Str), ⟨n_Factor__eq__, p_Factor__eq__, c_Factor__eq__.1, none⟩), ((("Factor", "__ne__") : Str × Str), ⟨n_Factor__ne__, p_Factor__ne__, c_Factor__ne__.1, none⟩), ((("Endless", "__eq__") : Str × Str), ⟨n_Endless__eq__, p_Endless__eq__, c_Endless__eq__.1, none⟩), ((("Endless", "__ne__") : Str × Str), ⟨n_Endless__ne__, p_Endless__ne__, c_Endless__ne__.1, none⟩), ((("Range", "__init__") : Str × Str), ⟨n_Range__init__, p_Range__init__, c_Range__init__.1, none⟩), ((("Range", "__eq__") : Str × Str), ⟨n_Range__eq__, p_Range__eq__, c_Range__eq__.1, none⟩), ((("Range", "__ne__") : Str × Str), ⟨n_Range__ne__, p_Range__ne__, c_Range__ne__.1, none⟩), ((("Moves", "__init__") : Str × Str), ⟨n_Moves__init__, p_Moves__init__, c_Moves__init__.1, none⟩), ((("Moves", "__eq__") : Str × Str), ⟨n_Moves__eq__, p_Moves__eq__, c_Moves__eq__.1, none⟩), ((("Moves", "__ne__") : Str × Str), ⟨n_Moves__ne__, p_Moves__ne__, c_Moves__ne__.1, none⟩), ((("Gives", "__init__") : Str × Str), ⟨n_Gives__init__, p_Gives__init__, c_Gives__init__.1, none⟩), ((("Gives", "__eq__") : Str × Str), ⟨n_Gives__eq__, p_Gives__eq__, c_Gives__eq__.1, none⟩), ((("Gives", "__ne__") : Str × Str), ⟨n_Gives__ne__, p_Gives__ne__, c_Gives__ne__.1, none⟩), ((("Moment", "__init__") : Str × Str), ⟨n_Moment__init__, p_Moment__init__, c_Moment__init__.1, none⟩), ((("Moment", "__eq__") : Str × Str), ⟨n_Moment__eq__, p_Moment__eq__, c_Moment__eq__.1, none⟩), ((("Moment", "__ne__") : Str × Str), ⟨n_Moment__ne__, p_Moment__ne__, c_Moment__ne__.1, none⟩), ((("Bends", "__init__") : Str × Str), ⟨n_Bends__init__, p_Bends__init__, c_Bends__init__.1, none⟩), ((("Bends", "__eq__") : Str × Str), ⟨n_Bends__eq__, p_Bends__eq__, c_Bends__eq__.1, none⟩), ((("Bends", "__ne__") : Str × Str), ⟨n_Bends__ne__, p_Bends__ne__, c_Bends__ne__.1, none⟩), ((("Loose", "__init__") : Str × Str), ⟨n_Loose__init__, p_Loose__init__, c_Loose__init__.1, none⟩), ((("Loose", "__eq__") : Str × Str), ⟨n_Loose__eq__, p_Loose__eq__, c_Loose__eq__.1, none⟩), ((("Loose", "__ne__") : Str × Str), ⟨n_Loose__ne__, p_Loose__ne__, c_Loose__ne__.1, none⟩), ((("Line", "__init__") : Str × Str), ⟨n_Line__init__, p_Line__init__, c_Line__init__.1, none⟩), ((("Line", "__eq__") : Str × Str), ⟨n_Line__eq__, p_Line__eq__, c_Line__eq__.1, none⟩), ((("Line", "__ne__") : Str × Str), ⟨n_Line__ne__, p_Line__ne__, c_Line__ne__.1, none⟩), ((("Design", "__init__") : Str × Str), ⟨n_Design__init__, p_Design__init__, c_Design__init__.1, none⟩), ((("Design", "__eq__") : Str × Str), ⟨n_Design__eq__, p_Design__eq__, c_Design__eq__.1, none⟩), ((("Design", "__ne__") : Str × Str), ⟨n_Design__ne__, p_Design__ne__, c_Design__ne__.1, none⟩), ((("Model", "__init__") : Str × Str), ⟨n_Model__init__, p_Model__init__, c_Model__init__.1, none⟩), ((("Model", "__eq__") : Str × Str), ⟨n_Model__eq__, p_Model__eq__, c_Model__eq__.1, none⟩), ((("Model", "__ne__") : Str × Str), ⟨n_Model__ne__, p_Model__ne__, c_Model__ne__.1, none⟩), ((("Paper", "__init__") : Str × Str), ⟨n_Paper__init__, p_Paper__init__, c_Paper__init__.1, none⟩), ((("Paper", "__eq__") : Str × Str), ⟨n_Paper__eq__, p_Paper__eq__, c_Paper__eq__.1, none⟩), ((("Paper", "__ne__") : Str × Str), ⟨n_Paper__ne__, p_Paper__ne__, c_Paper__ne__.1, none⟩)]
noncomputable def lmT : List E := [l_0.1, l_1.1, l_2.1, l_3.1, l_4.1, l_5.1, l_6.1, l_7.1, l_8.1, l_9.1, l_10.1, l_11.1, l_12.1, l_13.1, l_14.1]
def dfl90 (c : Str) : List D := if c = "Model" then [.tup []] else []
noncomputable def mkL (mc : Str → Str → List D → Sto → Res D) (c : Str) (ds : List D) (S : Sto) : Res D := if c = "Endless" then make0C c ds S else match par90.lookup c with
  | some ps => makeC (mc c "__init__") c (if ds.length < ps.length then dfl90 c else []) ds S
  | none => .bad
noncomputable def lv : Nat → Lv
  | 0 => ⟨fun _ _ _ => .bad, fun _ _ _ _ => .bad, fun _ _ _ => .bad, fun _ _ _ => .bad⟩
  | k + 1 => ⟨fun f => match fnT.lookup f with
      | some e => callC (semL e.here false (lv k)) e.N.length e.ps.length e.code
      | none => fun _ _ => .bad,
    fun c m => match mtT.lookup (c, m) with
      | some e => callC (semL e.here false (lv k)) e.N.length e.ps.length e.code
      | none => fun _ _ => .bad,
    mkL (lv k).mc,
    fun i => match lmT[i]? with
      | some e => lamC (semL none false (lv k)) 1 1 e
      | none => fun _ _ => .bad⟩
def GoodF (K : PySem.W.Frag) (f : Str) (e : Ent) : Prop := f ∈ fns90 ∧ ∃ fd params body scope, FunD K f f params body scope [] [] (He.ga K f) fd ∧ Binds K fd e.ps [] ∧ FnScope e.N e.ps scope ∧ (∀ l k, SSs (semL e.here false l) k e.N ⟨scope, true⟩ 0 body e.code) ∧ (e.here = none ∨ (e.here = some f ∧ f = "_law_rows"))
def GoodM (K : PySem.W.Frag) (c m : Str) (e : Ent) : Prop := c ∈ cls90 ∧ (m = "__eq__" ∨ m = "__ne__" ∨ m = "__init__") ∧ e.here = none ∧ ∃ fd qual params body scope dvs, FunD K m qual params body scope dvs [] (He.ma K (He.ga K c) m) fd ∧ Binds K fd e.ps [] ∧ FnScope e.N e.ps scope ∧ (∀ l k, SSs (semL none false l) k e.N ⟨scope, true⟩ 0 body e.code)
section
variable {K : PySem.W.Frag} (Sy : He.SaysD fa90 fn90 K)
include Sy
theorem good_copied : GoodF K "copied" ⟨n_copied, p_copied, c_copied.1, none⟩ := by
  obtain ⟨fd, F⟩ := Sy.def_ 0 (d := ⟨("copied", none), "copied", "copied", defArgs (top 1), defBody (top 1), defScope (top 1), [], []⟩) rfl
  exact ⟨by decide +kernel, fd, _, _, _, F, FunD.bindsN (ps := p_copied) F (fun _ _ _ _ _ _ us hl => match us, hl with | [_], _ => by kernel_rfl), ⟨rfl, rfl, rfl, by decide +kernel, rfl, by decide +kernel, by decide +kernel⟩, fun l k => c_copied.2 l k, .inl rfl⟩
theorem good_model_key : GoodF K "model_key" ⟨n_model_key, p_model_key, c_model_key.1, none⟩ := by
  obtain ⟨fd, F⟩ := Sy.def_ 1 (d := ⟨("model_key", none), "model_key", "model_key", defArgs (top 19), defBody (top 19), defScope (top 19), [], []⟩) rfl
  exact ⟨by decide +kernel, fd, _, _, _, F, FunD.bindsN (ps := p_model_key) F (fun _ _ _ _ _ _ us hl => match us, hl with | [_], _ => by kernel_rfl), ⟨rfl, rfl, rfl, by decide +kernel, rfl, by decide +kernel, by decide +kernel⟩, fun l k => c_model_key.2 l k, .inl rfl⟩
theorem good__law_pen : GoodF K "_law_pen" ⟨n__law_pen, p__law_pen, c__law_pen.1, none⟩ := by
  obtain ⟨fd, F⟩ := Sy.def_ 2 (d := ⟨("_law_pen", none), "_law_pen", "_law_pen", defArgs (top 23), defBody (top 23), defScope (top 23), [], []⟩) rfl
  exact ⟨by decide +kernel, fd, _, _, _, F, FunD.bindsN (ps := p__law_pen) F (fun _ _ _ _ _ _ us hl => match us, hl with | [_], _ => by kernel_rfl), ⟨rfl, rfl, rfl, by decide +kernel, rfl, by decide +kernel, by decide +kernel⟩, fun l k => c__law_pen.2 l k, .inl rfl⟩
theorem good__law_draw : GoodF K "_law_draw" ⟨n__law_draw, p__law_draw, c__law_draw.1, none⟩ := by
  obtain ⟨fd, F⟩ := Sy.def_ 3 (d := ⟨("_law_draw", none), "_law_draw", "_law_draw", defArgs (top 24), defBody (top 24), defScope (top 24), [], []⟩) rfl
  exact ⟨by decide +kernel, fd, _, _, _, F, FunD.bindsN (ps := p__law_draw) F (fun _ _ _ _ _ _ us hl => match us, hl with | [_, _], _ => by kernel_rfl), ⟨rfl, rfl, rfl, by decide +kernel, rfl, by decide +kernel, by decide +kernel⟩, fun l k => c__law_draw.2 l k, .inl rfl⟩
theorem good__law_pick : GoodF K "_law_pick" ⟨n__law_pick, p__law_pick, c__law_pick.1, none⟩ := by
  obtain ⟨fd, F⟩ := Sy.def_ 4 (d := ⟨("_law_pick", none), "_law_pick", "_law_pick", defArgs (top 25), defBody (top 25), defScope (top 25), [], []⟩) rfl
  exact ⟨by decide +kernel, fd, _, _, _, F, FunD.bindsN (ps := p__law_pick) F (fun _ _ _ _ _ _ us hl => match us, hl with | [_, _], _ => by kernel_rfl), ⟨rfl, rfl, rfl, by decide +kernel, rfl, by decide +kernel, by decide +kernel⟩, fun l k => c__law_pick.2 l k, .inl rfl⟩
theorem good__law_value : GoodF K "_law_value" ⟨n__law_value, p__law_value, c__law_value.1, none⟩ := by
  obtain ⟨fd, F⟩ := Sy.def_ 5 (d := ⟨("_law_value", none), "_law_value", "_law_value", defArgs (top 26), defBody (top 26), defScope (top 26), [], []⟩) rfl
  exact ⟨by decide +kernel, fd, _, _, _, F, FunD.bindsN (ps := p__law_value) F (fun _ _ _ _ _ _ us hl => match us, hl with | [_], _ => by kernel_rfl), ⟨rfl, rfl, rfl, by decide +kernel, rfl, by decide +kernel, by decide +kernel⟩, fun l k => c__law_value.2 l k, .inl rfl⟩
theorem good__law_copy : GoodF K "_law_copy" ⟨n__law_copy, p__law_copy, c__law_copy.1, none⟩ := by
  obtain ⟨fd, F⟩ := Sy.def_ 6 (d := ⟨("_law_copy", none), "_law_copy", "_law_copy", defArgs (top 27), defBody (top 27), defScope (top 27), [], []⟩) rfl
  exact ⟨by decide +kernel, fd, _, _, _, F, FunD.bindsN (ps := p__law_copy) F (fun _ _ _ _ _ _ us hl => match us, hl with | [_], _ => by kernel_rfl), ⟨rfl, rfl, rfl, by decide +kernel, rfl, by decide +kernel, by decide +kernel⟩, fun l k => c__law_copy.2 l k, .inl rfl⟩
theorem good__law_model_fields : GoodF K "_law_model_fields" ⟨n__law_model_fields, p__law_model_fields, c__law_model_fields.1, none⟩ := by
  obtain ⟨fd, F⟩ := Sy.def_ 7 (d := ⟨("_law_model_fields", none), "_law_model_fields", "_law_model_fields", defArgs (top 28), defBody (top 28), defScope (top 28), [], []⟩) rfl
  exact ⟨by decide +kernel, fd, _, _, _, F, FunD.bindsN (ps := p__law_model_fields) F (fun _ _ _ _ _ _ us hl => match us, hl with | [_], _ => by kernel_rfl), ⟨rfl, rfl, rfl, by decide +kernel, rfl, by decide +kernel, by decide +kernel⟩, fun l k => c__law_model_fields.2 l k, .inl rfl⟩
theorem good__law_rows : GoodF K "_law_rows" ⟨n__law_rows, p__law_rows, c__law_rows.1, (some "_law_rows")⟩ := by
  obtain ⟨fd, F⟩ := Sy.def_ 8 (d := ⟨("_law_rows", none), "_law_rows", "_law_rows", defArgs (top 29), defBody (top 29), defScope (top 29), [], []⟩) rfl
  exact ⟨by decide +kernel, fd, _, _, _, F, FunD.bindsN (ps := p__law_rows) F (fun _ _ _ _ _ _ us hl => match us, hl with | [_, _, _, _], _ => by kernel_rfl), ⟨rfl, rfl, rfl, by decide +kernel, rfl, by decide +kernel, by decide +kernel⟩, fun l k => c__law_rows.2 l k, .inr ⟨rfl, rfl⟩⟩
theorem good__law_unlike : GoodF K "_law_unlike" ⟨n__law_unlike, p__law_unlike, c__law_unlike.1, none⟩ := by
  obtain ⟨fd, F⟩ := Sy.def_ 9 (d := ⟨("_law_unlike", none), "_law_unlike", "_law_unlike", defArgs (top 30), defBody (top 30), defScope (top 30), [], []⟩) rfl
  exact ⟨by decide +kernel, fd, _, _, _, F, FunD.bindsN (ps := p__law_unlike) F (fun _ _ _ _ _ _ us hl => match us, hl with | [], _ => by kernel_rfl), ⟨rfl, rfl, rfl, by decide +kernel, rfl, by decide +kernel, by decide +kernel⟩, fun l k => c__law_unlike.2 l k, .inl rfl⟩
theorem good_Stresses__init__ : GoodM K "Stresses" "__init__" ⟨n_Stresses__init__, p_Stresses__init__, c_Stresses__init__.1, none⟩ := by
  obtain ⟨fd, F⟩ := Sy.def_ 11 (d := ⟨("Stresses", some "__init__"), "__init__", "Stresses.__init__", defArgs (mth 3 0), defBody (mth 3 0), defScope (mth 3 0), [], []⟩) rfl
  exact ⟨by decide +kernel, by decide +kernel, rfl, fd, _, _, _, _, _, F, FunD.bindsN (ps := p_Stresses__init__) F (fun _ _ _ _ _ _ us hl => match us, hl with | [_, _], _ => by kernel_rfl), ⟨rfl, rfl, rfl, by decide +kernel, rfl, by decide +kernel, by decide +kernel⟩, fun l k => c_Stresses__init__.2 l k⟩
theorem good_Stresses__eq__ : GoodM K "Stresses" "__eq__" ⟨n_Stresses__eq__, p_Stresses__eq__, c_Stresses__eq__.1, none⟩ := by
  obtain ⟨fd, F⟩ := Sy.def_ 12 (d := ⟨("Stresses", some "__eq__"), "__eq__", "Stresses.__eq__", defArgs (mth 3 1), defBody (mth 3 1), defScope (mth 3 1), [], []⟩) rfl
  exact ⟨by decide +kernel, by decide +kernel, rfl, fd, _, _, _, _, _, F, FunD.bindsN (ps := p_Stresses__eq__) F (fun _ _ _ _ _ _ us hl => match us, hl with | [_, _], _ => by kernel_rfl), ⟨rfl, rfl, rfl, by decide +kernel, rfl, by decide +kernel, by decide +kernel⟩, fun l k => c_Stresses__eq__.2 l k⟩
theorem good_Stresses__ne__ : GoodM K "Stresses" "__ne__" ⟨n_Stresses__ne__, p_Stresses__ne__, c_Stresses__ne__.1, none⟩ := by
  obtain ⟨fd, F⟩ := Sy.def_ 13 (d := ⟨("Stresses", some "__ne__"), "__ne__", "Stresses.__ne__", defArgs (mth 3 2), defBody (mth 3 2), defScope (mth 3 2), [], []⟩) rfl
  exact ⟨by decide +kernel, by decide +kernel, rfl, fd, _, _, _, _, _, F, FunD.bindsN (ps := p_Stresses__ne__) F (fun _ _ _ _ _ _ us hl => match us, hl with | [_, _], _ => by kernel_rfl), ⟨rfl, rfl, rfl, by decide +kernel, rfl, by decide +kernel, by decide +kernel⟩, fun l k => c_Stresses__ne__.2 l k⟩
theorem good_Stills__init__ : GoodM K "Stills" "__init__" ⟨n_Stills__init__, p_Stills__init__, c_Stills__init__.1, none⟩ := by
  obtain ⟨fd, F⟩ := Sy.def_ 14 (d := ⟨("Stills", some "__init__"), "__init__", "Stills.__init__", defArgs (mth 4 0), defBody (mth 4 0), defScope (mth 4 0), [], []⟩) rfl
  exact ⟨by decide +kernel, by decide +kernel, rfl, fd, _, _, _, _, _, F, FunD.bindsN (ps := p_Stills__init__) F (fun _ _ _ _ _ _ us hl => match us, hl with | [_, _], _ => by kernel_rfl), ⟨rfl, rfl, rfl, by decide +kernel, rfl, by decide +kernel, by decide +kernel⟩, fun l k => c_Stills__init__.2 l k⟩
theorem good_Stills__eq__ : GoodM K "Stills" "__eq__" ⟨n_Stills__eq__, p_Stills__eq__, c_Stills__eq__.1, none⟩ := by
  obtain ⟨fd, F⟩ := Sy.def_ 15 (d := ⟨("Stills", some "__eq__"), "__eq__", "Stills.__eq__", defArgs (mth 4 1), defBody (mth 4 1), defScope (mth 4 1), [], []⟩) rfl
  exact ⟨by decide +kernel, by decide +kernel, rfl, fd, _, _, _, _, _, F, FunD.bindsN (ps := p_Stills__eq__) F (fun _ _ _ _ _ _ us hl => match us, hl with | [_, _], _ => by kernel_rfl), ⟨rfl, rfl, rfl, by decide +kernel, rfl, by decide +kernel, by decide +kernel⟩, fun l k => c_Stills__eq__.2 l k⟩
theorem good_Stills__ne__ : GoodM K "Stills" "__ne__" ⟨n_Stills__ne__, p_Stills__ne__, c_Stills__ne__.1, none⟩ := by
  obtain ⟨fd, F⟩ := Sy.def_ 16 (d := ⟨("Stills", some "__ne__"), "__ne__", "Stills.__ne__", defArgs (mth 4 2), defBody (mth 4 2), defScope (mth 4 2), [], []⟩) rfl
  exact ⟨by decide +kernel, by decide +kernel, rfl, fd, _, _, _, _, _, F, FunD.bindsN (ps := p_Stills__ne__) F (fun _ _ _ _ _ _ us hl => match us, hl with | [_, _], _ => by kernel_rfl), ⟨rfl, rfl, rfl, by decide +kernel, rfl, by decide +kernel, by decide +kernel⟩, fun l k => c_Stills__ne__.2 l k⟩
theorem good_Carries__init__ : GoodM K "Carries" "__init__" ⟨n_Carries__init__, p_Carries__init__, c_Carries__init__.1, none⟩ := by
  obtain ⟨fd, F⟩ := Sy.def_ 17 (d := ⟨("Carries", some "__init__"), "__init__", "Carries.__init__", defArgs (mth 5 0), defBody (mth 5 0), defScope (mth 5 0), [], []⟩) rfl
  exact ⟨by decide +kernel, by decide +kernel, rfl, fd, _, _, _, _, _, F, FunD.bindsN (ps := p_Carries__init__) F (fun _ _ _ _ _ _ us hl => match us, hl with | [_, _], _ => by kernel_rfl), ⟨rfl, rfl, rfl, by decide +kernel, rfl, by decide +kernel, by decide +kernel⟩, fun l k => c_Carries__init__.2 l k⟩
theorem good_Carries__eq__ : GoodM K "Carries" "__eq__" ⟨n_Carries__eq__, p_Carries__eq__, c_Carries__eq__.1, none⟩ := by
  obtain ⟨fd, F⟩ := Sy.def_ 18 (d := ⟨("Carries", some "__eq__"), "__eq__", "Carries.__eq__", defArgs (mth 5 1), defBody (mth 5 1), defScope (mth 5 1), [], []⟩) rfl
  exact ⟨by decide +kernel, by decide +kernel, rfl, fd, _, _, _, _, _, F, FunD.bindsN (ps := p_Carries__eq__) F (fun _ _ _ _ _ _ us hl => match us, hl with | [_, _], _ => by kernel_rfl), ⟨rfl, rfl, rfl, by decide +kernel, rfl, by decide +kernel, by decide +kernel⟩, fun l k => c_Carries__eq__.2 l k⟩
theorem good_Carries__ne__ : GoodM K "Carries" "__ne__" ⟨n_Carries__ne__, p_Carries__ne__, c_Carries__ne__.1, none⟩ := by
  obtain ⟨fd, F⟩ := Sy.def_ 19 (d := ⟨("Carries", some "__ne__"), "__ne__", "Carries.__ne__", defArgs (mth 5 2), defBody (mth 5 2), defScope (mth 5 2), [], []⟩) rfl
  exact ⟨by decide +kernel, by decide +kernel, rfl, fd, _, _, _, _, _, F, FunD.bindsN (ps := p_Carries__ne__) F (fun _ _ _ _ _ _ us hl => match us, hl with | [_, _], _ => by kernel_rfl), ⟨rfl, rfl, rfl, by decide +kernel, rfl, by decide +kernel, by decide +kernel⟩, fun l k => c_Carries__ne__.2 l k⟩
theorem good_Yields__init__ : GoodM K "Yields" "__init__" ⟨n_Yields__init__, p_Yields__init__, c_Yields__init__.1, none⟩ := by
  obtain ⟨fd, F⟩ := Sy.def_ 20 (d := ⟨("Yields", some "__init__"), "__init__", "Yields.__init__", defArgs (mth 6 0), defBody (mth 6 0), defScope (mth 6 0), [], []⟩) rfl
  exact ⟨by decide +kernel, by decide +kernel, rfl, fd, _, _, _, _, _, F, FunD.bindsN (ps := p_Yields__init__) F (fun _ _ _ _ _ _ us hl => match us, hl with | [_, _, _], _ => by kernel_rfl), ⟨rfl, rfl, rfl, by decide +kernel, rfl, by decide +kernel, by decide +kernel⟩, fun l k => c_Yields__init__.2 l k⟩
theorem good_Yields__eq__ : GoodM K "Yields" "__eq__" ⟨n_Yields__eq__, p_Yields__eq__, c_Yields__eq__.1, none⟩ := by
  obtain ⟨fd, F⟩ := Sy.def_ 21 (d := ⟨("Yields", some "__eq__"), "__eq__", "Yields.__eq__", defArgs (mth 6 1), defBody (mth 6 1), defScope (mth 6 1), [], []⟩) rfl
  exact ⟨by decide +kernel, by decide +kernel, rfl, fd, _, _, _, _, _, F, FunD.bindsN (ps := p_Yields__eq__) F (fun _ _ _ _ _ _ us hl => match us, hl with | [_, _], _ => by kernel_rfl), ⟨rfl, rfl, rfl, by decide +kernel, rfl, by decide +kernel, by decide +kernel⟩, fun l k => c_Yields__eq__.2 l k⟩
theorem good_Yields__ne__ : GoodM K "Yields" "__ne__" ⟨n_Yields__ne__, p_Yields__ne__, c_Yields__ne__.1, none⟩ := by
  obtain ⟨fd, F⟩ := Sy.def_ 22 (d := ⟨("Yields", some "__ne__"), "__ne__", "Yields.__ne__", defArgs (mth 6 2), defBody (mth 6 2), defScope (mth 6 2), [], []⟩) rfl
  exact ⟨by decide +kernel, by decide +kernel, rfl, fd, _, _, _, _, _, F, FunD.bindsN (ps := p_Yields__ne__) F (fun _ _ _ _ _ _ us hl => match us, hl with | [_, _], _ => by kernel_rfl), ⟨rfl, rfl, rfl, by decide +kernel, rfl, by decide +kernel, by decide +kernel⟩, fun l k => c_Yields__ne__.2 l k⟩
theorem good_Factor__init__ : GoodM K "Factor" "__init__" ⟨n_Factor__init__, p_Factor__init__, c_Factor__init__.1, none⟩ := by
  obtain ⟨fd, F⟩ := Sy.def_ 23 (d := ⟨("Factor", some "__init__"), "__init__", "Factor.__init__", defArgs (mth 7 0), defBody (mth 7 0), defScope (mth 7 0), [], []⟩) rfl
  exact ⟨by decide +kernel, by decide +kernel, rfl, fd, _, _, _, _, _, F, FunD.bindsN (ps := p_Factor__init__) F (fun _ _ _ _ _ _ us hl => match us, hl with | [_, _], _ => by kernel_rfl), ⟨rfl, rfl, rfl, by decide +kernel, rfl, by decide +kernel, by decide +kernel⟩, fun l k => c_Factor__init__.2 l k⟩
theorem good_Factor__eq__ : GoodM K "Factor" "__eq__" ⟨n_Factor__eq__, p_Factor__eq__, c_Factor__eq__.1, none⟩ := by
  obtain ⟨fd, F⟩ := Sy.def_ 24 (d := ⟨("Factor", some "__eq__"), "__eq__", "Factor.__eq__", defArgs (mth 7 1), defBody (mth 7 1), defScope (mth 7 1), [], []⟩) rfl
  exact ⟨by decide +kernel, by decide +kernel, rfl, fd, _, _, _, _, _, F, FunD.bindsN (ps := p_Factor__eq__) F (fun _ _ _ _ _ _ us hl => match us, hl with | [_, _], _ => by kernel_rfl), ⟨rfl, rfl, rfl, by decide +kernel, rfl, by decide +kernel, by decide +kernel⟩, fun l k => c_Factor__eq__.2 l k⟩
theorem good_Factor__ne__ : GoodM K "Factor" "__ne__" ⟨n_Factor__ne__, p_Factor__ne__, c_Factor__ne__.1, none⟩ := by
  obtain ⟨fd, F⟩ := Sy.def_ 25 (d := ⟨("Factor", some "__ne__"), "__ne__", "Factor.__ne__", defArgs (mth 7 2), defBody (mth 7 2), defScope (mth 7 2), [], []⟩) rfl
  exact ⟨by decide +kernel, by decide +kernel, rfl, fd, _, _, _, _, _, F, FunD.bindsN (ps := p_Factor__ne__) F (fun _ _ _ _ _ _ us hl => match us, hl with | [_, _], _ => by kernel_rfl), ⟨rfl, rfl, rfl, by decide +kernel, rfl, by decide +kernel, by decide +kernel⟩, fun l k => c_Factor__ne__.2 l k⟩
theorem good_Endless__eq__ : GoodM K "Endless" "__eq__" ⟨n_Endless__eq__, p_Endless__eq__, c_Endless__eq__.1, none⟩ := by
  obtain ⟨fd, F⟩ := Sy.def_ 26 (d := ⟨("Endless", some "__eq__"), "__eq__", "Endless.__eq__", defArgs (mth 8 0), defBody (mth 8 0), defScope (mth 8 0), [], []⟩) rfl
  exact ⟨by decide +kernel, by decide +kernel, rfl, fd, _, _, _, _, _, F, FunD.bindsN (ps := p_Endless__eq__) F (fun _ _ _ _ _ _ us hl => match us, hl with | [_, _], _ => by kernel_rfl), ⟨rfl, rfl, rfl, by decide +kernel, rfl, by decide +kernel, by decide +kernel⟩, fun l k => c_Endless__eq__.2 l k⟩
theorem good_Endless__ne__ : GoodM K "Endless" "__ne__" ⟨n_Endless__ne__, p_Endless__ne__, c_Endless__ne__.1, none⟩ := by
  obtain ⟨fd, F⟩ := Sy.def_ 27 (d := ⟨("Endless", some "__ne__"), "__ne__", "Endless.__ne__", defArgs (mth 8 1), defBody (mth 8 1), defScope (mth 8 1), [], []⟩) rfl
  exact ⟨by decide +kernel, by decide +kernel, rfl, fd, _, _, _, _, _, F, FunD.bindsN (ps := p_Endless__ne__) F (fun _ _ _ _ _ _ us hl => match us, hl with | [_, _], _ => by kernel_rfl), ⟨rfl, rfl, rfl, by decide +kernel, rfl, by decide +kernel, by decide +kernel⟩, fun l k => c_Endless__ne__.2 l k⟩
theorem good_Range__init__ : GoodM K "Range" "__init__" ⟨n_Range__init__, p_Range__init__, c_Range__init__.1, none⟩ := by
  obtain ⟨fd, F⟩ := Sy.def_ 28 (d := ⟨("Range", some "__init__"), "__init__", "Range.__init__", defArgs (mth 9 0), defBody (mth 9 0), defScope (mth 9 0), [], []⟩) rfl
  exact ⟨by decide +kernel, by decide +kernel, rfl, fd, _, _, _, _, _, F, FunD.bindsN (ps := p_Range__init__) F (fun _ _ _ _ _ _ us hl => match us, hl with | [_, _, _], _ => by kernel_rfl), ⟨rfl, rfl, rfl, by decide +kernel, rfl, by decide +kernel, by decide +kernel⟩, fun l k => c_Range__init__.2 l k⟩
theorem good_Range__eq__ : GoodM K "Range" "__eq__" ⟨n_Range__eq__, p_Range__eq__, c_Range__eq__.1, none⟩ := by
  obtain ⟨fd, F⟩ := Sy.def_ 29 (d := ⟨("Range", some "__eq__"), "__eq__", "Range.__eq__", defArgs (mth 9 1), defBody (mth 9 1), defScope (mth 9 1), [], []⟩) rfl
  exact ⟨by decide +kernel, by decide +kernel, rfl, fd, _, _, _, _, _, F, FunD.bindsN (ps := p_Range__eq__) F (fun _ _ _ _ _ _ us hl => match us, hl with | [_, _], _ => by kernel_rfl), ⟨rfl, rfl, rfl, by decide +kernel, rfl, by decide +kernel, by decide +kernel⟩, fun l k => c_Range__eq__.2 l k⟩
theorem good_Range__ne__ : GoodM K "Range" "__ne__" ⟨n_Range__ne__, p_Range__ne__, c_Range__ne__.1, none⟩ := by
  obtain ⟨fd, F⟩ := Sy.def_ 30 (d := ⟨("Range", some "__ne__"), "__ne__", "Range.__ne__", defArgs (mth 9 2), defBody (mth 9 2), defScope (mth 9 2), [], []⟩) rfl
  exact ⟨by decide +kernel, by decide +kernel, rfl, fd, _, _, _, _, _, F, FunD.bindsN (ps := p_Range__ne__) F (fun _ _ _ _ _ _ us hl => match us, hl with | [_, _], _ => by kernel_rfl), ⟨rfl, rfl, rfl, by decide +kernel, rfl, by decide +kernel, by decide +kernel⟩, fun l k => c_Range__ne__.2 l k⟩
theorem good_Moves__init__ : GoodM K "Moves" "__init__" ⟨n_Moves__init__, p_Moves__init__, c_Moves__init__.1, none⟩ := by
  obtain ⟨fd, F⟩ := Sy.def_ 31 (d := ⟨("Moves", some "__init__"), "__init__", "Moves.__init__", defArgs (mth 10 0), defBody (mth 10 0), defScope (mth 10 0), [], []⟩) rfl
  exact ⟨by decide +kernel, by decide +kernel, rfl, fd, _, _, _, _, _, F, FunD.bindsN (ps := p_Moves__init__) F (fun _ _ _ _ _ _ us hl => match us, hl with | [_, _], _ => by kernel_rfl), ⟨rfl, rfl, rfl, by decide +kernel, rfl, by decide +kernel, by decide +kernel⟩, fun l k => c_Moves__init__.2 l k⟩
theorem good_Moves__eq__ : GoodM K "Moves" "__eq__" ⟨n_Moves__eq__, p_Moves__eq__, c_Moves__eq__.1, none⟩ := by
  obtain ⟨fd, F⟩ := Sy.def_ 32 (d := ⟨("Moves", some "__eq__"), "__eq__", "Moves.__eq__", defArgs (mth 10 1), defBody (mth 10 1), defScope (mth 10 1), [], []⟩) rfl
  exact ⟨by decide +kernel, by decide +kernel, rfl, fd, _, _, _, _, _, F, FunD.bindsN (ps := p_Moves__eq__) F (fun _ _ _ _ _ _ us hl => match us, hl with | [_, _], _ => by kernel_rfl), ⟨rfl, rfl, rfl, by decide +kernel, rfl, by decide +kernel, by decide +kernel⟩, fun l k => c_Moves__eq__.2 l k⟩
theorem good_Moves__ne__ : GoodM K "Moves" "__ne__" ⟨n_Moves__ne__, p_Moves__ne__, c_Moves__ne__.1, none⟩ := by
  obtain ⟨fd, F⟩ := Sy.def_ 33 (d := ⟨("Moves", some "__ne__"), "__ne__", "Moves.__ne__", defArgs (mth 10 2), defBody (mth 10 2), defScope (mth 10 2), [], []⟩) rfl
  exact ⟨by decide +kernel, by decide +kernel, rfl, fd, _, _, _, _, _, F, FunD.bindsN (ps := p_Moves__ne__) F (fun _ _ _ _ _ _ us hl => match us, hl with | [_, _], _ => by kernel_rfl), ⟨rfl, rfl, rfl, by decide +kernel, rfl, by decide +kernel, by decide +kernel⟩, fun l k => c_Moves__ne__.2 l k⟩
theorem good_Gives__init__ : GoodM K "Gives" "__init__" ⟨n_Gives__init__, p_Gives__init__, c_Gives__init__.1, none⟩ := by
  obtain ⟨fd, F⟩ := Sy.def_ 34 (d := ⟨("Gives", some "__init__"), "__init__", "Gives.__init__", defArgs (mth 11 0), defBody (mth 11 0), defScope (mth 11 0), [], []⟩) rfl
  exact ⟨by decide +kernel, by decide +kernel, rfl, fd, _, _, _, _, _, F, FunD.bindsN (ps := p_Gives__init__) F (fun _ _ _ _ _ _ us hl => match us, hl with | [_, _], _ => by kernel_rfl), ⟨rfl, rfl, rfl, by decide +kernel, rfl, by decide +kernel, by decide +kernel⟩, fun l k => c_Gives__init__.2 l k⟩
theorem good_Gives__eq__ : GoodM K "Gives" "__eq__" ⟨n_Gives__eq__, p_Gives__eq__, c_Gives__eq__.1, none⟩ := by
  obtain ⟨fd, F⟩ := Sy.def_ 35 (d := ⟨("Gives", some "__eq__"), "__eq__", "Gives.__eq__", defArgs (mth 11 1), defBody (mth 11 1), defScope (mth 11 1), [], []⟩) rfl
  exact ⟨by decide +kernel, by decide +kernel, rfl, fd, _, _, _, _, _, F, FunD.bindsN (ps := p_Gives__eq__) F (fun _ _ _ _ _ _ us hl => match us, hl with | [_, _], _ => by kernel_rfl), ⟨rfl, rfl, rfl, by decide +kernel, rfl, by decide +kernel, by decide +kernel⟩, fun l k => c_Gives__eq__.2 l k⟩
theorem good_Gives__ne__ : GoodM K "Gives" "__ne__" ⟨n_Gives__ne__, p_Gives__ne__, c_Gives__ne__.1, none⟩ := by
  obtain ⟨fd, F⟩ := Sy.def_ 36 (d := ⟨("Gives", some "__ne__"), "__ne__", "Gives.__ne__", defArgs (mth 11 2), defBody (mth 11 2), defScope (mth 11 2), [], []⟩) rfl
  exact ⟨by decide +kernel, by decide +kernel, rfl, fd, _, _, _, _, _, F, FunD.bindsN (ps := p_Gives__ne__) F (fun _ _ _ _ _ _ us hl => match us, hl with | [_, _], _ => by kernel_rfl), ⟨rfl, rfl, rfl, by decide +kernel, rfl, by decide +kernel, by decide +kernel⟩, fun l k => c_Gives__ne__.2 l k⟩
theorem good_Moment__init__ : GoodM K "Moment" "__init__" ⟨n_Moment__init__, p_Moment__init__, c_Moment__init__.1, none⟩ := by
  obtain ⟨fd, F⟩ := Sy.def_ 37 (d := ⟨("Moment", some "__init__"), "__init__", "Moment.__init__", defArgs (mth 12 0), defBody (mth 12 0), defScope (mth 12 0), [], []⟩) rfl
  exact ⟨by decide +kernel, by decide +kernel, rfl, fd, _, _, _, _, _, F, FunD.bindsN (ps := p_Moment__init__) F (fun _ _ _ _ _ _ us hl => match us, hl with | [_, _], _ => by kernel_rfl), ⟨rfl, rfl, rfl, by decide +kernel, rfl, by decide +kernel, by decide +kernel⟩, fun l k => c_Moment__init__.2 l k⟩
theorem good_Moment__eq__ : GoodM K "Moment" "__eq__" ⟨n_Moment__eq__, p_Moment__eq__, c_Moment__eq__.1, none⟩ := by
  obtain ⟨fd, F⟩ := Sy.def_ 38 (d := ⟨("Moment", some "__eq__"), "__eq__", "Moment.__eq__", defArgs (mth 12 1), defBody (mth 12 1), defScope (mth 12 1), [], []⟩) rfl
  exact ⟨by decide +kernel, by decide +kernel, rfl, fd, _, _, _, _, _, F, FunD.bindsN (ps := p_Moment__eq__) F (fun _ _ _ _ _ _ us hl => match us, hl with | [_, _], _ => by kernel_rfl), ⟨rfl, rfl, rfl, by decide +kernel, rfl, by decide +kernel, by decide +kernel⟩, fun l k => c_Moment__eq__.2 l k⟩
theorem good_Moment__ne__ : GoodM K "Moment" "__ne__" ⟨n_Moment__ne__, p_Moment__ne__, c_Moment__ne__.1, none⟩ := by
  obtain ⟨fd, F⟩ := Sy.def_ 39 (d := ⟨("Moment", some "__ne__"), "__ne__", "Moment.__ne__", defArgs (mth 12 2), defBody (mth 12 2), defScope (mth 12 2), [], []⟩) rfl
  exact ⟨by decide +kernel, by decide +kernel, rfl, fd, _, _, _, _, _, F, FunD.bindsN (ps := p_Moment__ne__) F (fun _ _ _ _ _ _ us hl => match us, hl with | [_, _], _ => by kernel_rfl), ⟨rfl, rfl, rfl, by decide +kernel, rfl, by decide +kernel, by decide +kernel⟩, fun l k => c_Moment__ne__.2 l k⟩
theorem good_Bends__init__ : GoodM K "Bends" "__init__" ⟨n_Bends__init__, p_Bends__init__, c_Bends__init__.1, none⟩ := by
  obtain ⟨fd, F⟩ := Sy.def_ 40 (d := ⟨("Bends", some "__init__"), "__init__", "Bends.__init__", defArgs (mth 13 0), defBody (mth 13 0), defScope (mth 13 0), [], []⟩) rfl
  exact ⟨by decide +kernel, by decide +kernel, rfl, fd, _, _, _, _, _, F, FunD.bindsN (ps := p_Bends__init__) F (fun _ _ _ _ _ _ us hl => match us, hl with | [_, _], _ => by kernel_rfl), ⟨rfl, rfl, rfl, by decide +kernel, rfl, by decide +kernel, by decide +kernel⟩, fun l k => c_Bends__init__.2 l k⟩
theorem good_Bends__eq__ : GoodM K "Bends" "__eq__" ⟨n_Bends__eq__, p_Bends__eq__, c_Bends__eq__.1, none⟩ := by
  obtain ⟨fd, F⟩ := Sy.def_ 41 (d := ⟨("Bends", some "__eq__"), "__eq__", "Bends.__eq__", defArgs (mth 13 1), defBody (mth 13 1), defScope (mth 13 1), [], []⟩) rfl
  exact ⟨by decide +kernel, by decide +kernel, rfl, fd, _, _, _, _, _, F, FunD.bindsN (ps := p_Bends__eq__) F (fun _ _ _ _ _ _ us hl => match us, hl with | [_, _], _ => by kernel_rfl), ⟨rfl, rfl, rfl, by decide +kernel, rfl, by decide +kernel, by decide +kernel⟩, fun l k => c_Bends__eq__.2 l k⟩
theorem good_Bends__ne__ : GoodM K "Bends" "__ne__" ⟨n_Bends__ne__, p_Bends__ne__, c_Bends__ne__.1, none⟩ := by
  obtain ⟨fd, F⟩ := Sy.def_ 42 (d := ⟨("Bends", some "__ne__"), "__ne__", "Bends.__ne__", defArgs (mth 13 2), defBody (mth 13 2), defScope (mth 13 2), [], []⟩) rfl
  exact ⟨by decide +kernel, by decide +kernel, rfl, fd, _, _, _, _, _, F, FunD.bindsN (ps := p_Bends__ne__) F (fun _ _ _ _ _ _ us hl => match us, hl with | [_, _], _ => by kernel_rfl), ⟨rfl, rfl, rfl, by decide +kernel, rfl, by decide +kernel, by decide +kernel⟩, fun l k => c_Bends__ne__.2 l k⟩
theorem good_Loose__init__ : GoodM K "Loose" "__init__" ⟨n_Loose__init__, p_Loose__init__, c_Loose__init__.1, none⟩ := by
  obtain ⟨fd, F⟩ := Sy.def_ 43 (d := ⟨("Loose", some "__init__"), "__init__", "Loose.__init__", defArgs (mth 14 0), defBody (mth 14 0), defScope (mth 14 0), [], []⟩) rfl
  exact ⟨by decide +kernel, by decide +kernel, rfl, fd, _, _, _, _, _, F, FunD.bindsN (ps := p_Loose__init__) F (fun _ _ _ _ _ _ us hl => match us, hl with | [_, _], _ => by kernel_rfl), ⟨rfl, rfl, rfl, by decide +kernel, rfl, by decide +kernel, by decide +kernel⟩, fun l k => c_Loose__init__.2 l k⟩
theorem good_Loose__eq__ : GoodM K "Loose" "__eq__" ⟨n_Loose__eq__, p_Loose__eq__, c_Loose__eq__.1, none⟩ := by
  obtain ⟨fd, F⟩ := Sy.def_ 44 (d := ⟨("Loose", some "__eq__"), "__eq__", "Loose.__eq__", defArgs (mth 14 1), defBody (mth 14 1), defScope (mth 14 1), [], []⟩) rfl
  exact ⟨by decide +kernel, by decide +kernel, rfl, fd, _, _, _, _, _, F, FunD.bindsN (ps := p_Loose__eq__) F (fun _ _ _ _ _ _ us hl => match us, hl with | [_, _], _ => by kernel_rfl), ⟨rfl, rfl, rfl, by decide +kernel, rfl, by decide +kernel, by decide +kernel⟩, fun l k => c_Loose__eq__.2 l k⟩
theorem good_Loose__ne__ : GoodM K "Loose" "__ne__" ⟨n_Loose__ne__, p_Loose__ne__, c_Loose__ne__.1, none⟩ := by
  obtain ⟨fd, F⟩ := Sy.def_ 45 (d := ⟨("Loose", some "__ne__"), "__ne__", "Loose.__ne__", defArgs (mth 14 2), defBody (mth 14 2), defScope (mth 14 2), [], []⟩) rfl
  exact ⟨by decide +kernel, by decide +kernel, rfl, fd, _, _, _, _, _, F, FunD.bindsN (ps := p_Loose__ne__) F (fun _ _ _ _ _ _ us hl => match us, hl with | [_, _], _ => by kernel_rfl), ⟨rfl, rfl, rfl, by decide +kernel, rfl, by decide +kernel, by decide +kernel⟩, fun l k => c_Loose__ne__.2 l k⟩
theorem good_Line__init__ : GoodM K "Line" "__init__" ⟨n_Line__init__, p_Line__init__, c_Line__init__.1, none⟩ := by
  obtain ⟨fd, F⟩ := Sy.def_ 46 (d := ⟨("Line", some "__init__"), "__init__", "Line.__init__", defArgs (mth 15 0), defBody (mth 15 0), defScope (mth 15 0), [], []⟩) rfl
  exact ⟨by decide +kernel, by decide +kernel, rfl, fd, _, _, _, _, _, F, FunD.bindsN (ps := p_Line__init__) F (fun _ _ _ _ _ _ us hl => match us, hl with | [_, _], _ => by kernel_rfl), ⟨rfl, rfl, rfl, by decide +kernel, rfl, by decide +kernel, by decide +kernel⟩, fun l k => c_Line__init__.2 l k⟩
theorem good_Line__eq__ : GoodM K "Line" "__eq__" ⟨n_Line__eq__, p_Line__eq__, c_Line__eq__.1, none⟩ := by
  obtain ⟨fd, F⟩ := Sy.def_ 47 (d := ⟨("Line", some "__eq__"), "__eq__", "Line.__eq__", defArgs (mth 15 1), defBody (mth 15 1), defScope (mth 15 1), [], []⟩) rfl
  exact ⟨by decide +kernel, by decide +kernel, rfl, fd, _, _, _, _, _, F, FunD.bindsN (ps := p_Line__eq__) F (fun _ _ _ _ _ _ us hl => match us, hl with | [_, _], _ => by kernel_rfl), ⟨rfl, rfl, rfl, by decide +kernel, rfl, by decide +kernel, by decide +kernel⟩, fun l k => c_Line__eq__.2 l k⟩
theorem good_Line__ne__ : GoodM K "Line" "__ne__" ⟨n_Line__ne__, p_Line__ne__, c_Line__ne__.1, none⟩ := by
  obtain ⟨fd, F⟩ := Sy.def_ 48 (d := ⟨("Line", some "__ne__"), "__ne__", "Line.__ne__", defArgs (mth 15 2), defBody (mth 15 2), defScope (mth 15 2), [], []⟩) rfl
  exact ⟨by decide +kernel, by decide +kernel, rfl, fd, _, _, _, _, _, F, FunD.bindsN (ps := p_Line__ne__) F (fun _ _ _ _ _ _ us hl => match us, hl with | [_, _], _ => by kernel_rfl), ⟨rfl, rfl, rfl, by decide +kernel, rfl, by decide +kernel, by decide +kernel⟩, fun l k => c_Line__ne__.2 l k⟩
theorem good_Design__init__ : GoodM K "Design" "__init__" ⟨n_Design__init__, p_Design__init__, c_Design__init__.1, none⟩ := by
  obtain ⟨fd, F⟩ := Sy.def_ 49 (d := ⟨("Design", some "__init__"), "__init__", "Design.__init__", defArgs (mth 16 0), defBody (mth 16 0), defScope (mth 16 0), [], []⟩) rfl
  exact ⟨by decide +kernel, by decide +kernel, rfl, fd, _, _, _, _, _, F, FunD.bindsN (ps := p_Design__init__) F (fun _ _ _ _ _ _ us hl => match us, hl with | [_, _, _], _ => by kernel_rfl), ⟨rfl, rfl, rfl, by decide +kernel, rfl, by decide +kernel, by decide +kernel⟩, fun l k => c_Design__init__.2 l k⟩
theorem good_Design__eq__ : GoodM K "Design" "__eq__" ⟨n_Design__eq__, p_Design__eq__, c_Design__eq__.1, none⟩ := by
  obtain ⟨fd, F⟩ := Sy.def_ 50 (d := ⟨("Design", some "__eq__"), "__eq__", "Design.__eq__", defArgs (mth 16 1), defBody (mth 16 1), defScope (mth 16 1), [], []⟩) rfl
  exact ⟨by decide +kernel, by decide +kernel, rfl, fd, _, _, _, _, _, F, FunD.bindsN (ps := p_Design__eq__) F (fun _ _ _ _ _ _ us hl => match us, hl with | [_, _], _ => by kernel_rfl), ⟨rfl, rfl, rfl, by decide +kernel, rfl, by decide +kernel, by decide +kernel⟩, fun l k => c_Design__eq__.2 l k⟩
theorem good_Design__ne__ : GoodM K "Design" "__ne__" ⟨n_Design__ne__, p_Design__ne__, c_Design__ne__.1, none⟩ := by
  obtain ⟨fd, F⟩ := Sy.def_ 51 (d := ⟨("Design", some "__ne__"), "__ne__", "Design.__ne__", defArgs (mth 16 2), defBody (mth 16 2), defScope (mth 16 2), [], []⟩) rfl
  exact ⟨by decide +kernel, by decide +kernel, rfl, fd, _, _, _, _, _, F, FunD.bindsN (ps := p_Design__ne__) F (fun _ _ _ _ _ _ us hl => match us, hl with | [_, _], _ => by kernel_rfl), ⟨rfl, rfl, rfl, by decide +kernel, rfl, by decide +kernel, by decide +kernel⟩, fun l k => c_Design__ne__.2 l k⟩
omit Sy in
theorem bindsFull {fd : FuncData} {f : Addr} {v : V} (F : FunD K "__init__" "Model.__init__" (defArgs (mth 18 0)) (defBody (mth 18 0)) (defScope (mth 18 0)) [v] [] f fd) : Binds K fd p_Model__init__ [] := by
  obtain ⟨ds, r, b⟩ := FunD.binds1 (ps := p_Model__init__) F 7 1 (fun h => nomatch h) rfl (fun T kV doc pm an cdv ct us its h1 h2 => match us, its, h1, h2 with | [_, _, _, _, _, _, _], [_], _, _ => ⟨_, rfl, by kernel_rfl⟩)
  cases r
  exact b
theorem good_Model__init__ : GoodM K "Model" "__init__" ⟨n_Model__init__, p_Model__init__, c_Model__init__.1, none⟩ := by
  obtain ⟨fd, F⟩ := Sy.def_ 52 (d := ⟨("Model", some "__init__"), "__init__", "Model.__init__", defArgs (mth 18 0), defBody (mth 18 0), defScope (mth 18 0), [.adr (He.dflAt ("Model", some "__init__") 0)], []⟩) rfl
  exact ⟨by decide +kernel, by decide +kernel, rfl, fd, _, _, _, _, _, F, bindsFull (v := .ref (He.dflAt ("Model", some "__init__") 0 K)) F, ⟨rfl, rfl, rfl, by decide +kernel, rfl, by decide +kernel, by decide +kernel⟩, fun l k => c_Model__init__.2 l k⟩
theorem good_Model__eq__ : GoodM K "Model" "__eq__" ⟨n_Model__eq__, p_Model__eq__, c_Model__eq__.1, none⟩ := by
  obtain ⟨fd, F⟩ := Sy.def_ 53 (d := ⟨("Model", some "__eq__"), "__eq__", "Model.__eq__", defArgs (mth 18 1), defBody (mth 18 1), defScope (mth 18 1), [], []⟩) rfl
  exact ⟨by decide +kernel, by decide +kernel, rfl, fd, _, _, _, _, _, F, FunD.bindsN (ps := p_Model__eq__) F (fun _ _ _ _ _ _ us hl => match us, hl with | [_, _], _ => by kernel_rfl), ⟨rfl, rfl, rfl, by decide +kernel, rfl, by decide +kernel, by decide +kernel⟩, fun l k => c_Model__eq__.2 l k⟩
theorem good_Model__ne__ : GoodM K "Model" "__ne__" ⟨n_Model__ne__, p_Model__ne__, c_Model__ne__.1, none⟩ := by
  obtain ⟨fd, F⟩ := Sy.def_ 54 (d := ⟨("Model", some "__ne__"), "__ne__", "Model.__ne__", defArgs (mth 18 2), defBody (mth 18 2), defScope (mth 18 2), [], []⟩) rfl
  exact ⟨by decide +kernel, by decide +kernel, rfl, fd, _, _, _, _, _, F, FunD.bindsN (ps := p_Model__ne__) F (fun _ _ _ _ _ _ us hl => match us, hl with | [_, _], _ => by kernel_rfl), ⟨rfl, rfl, rfl, by decide +kernel, rfl, by decide +kernel, by decide +kernel⟩, fun l k => c_Model__ne__.2 l k⟩
theorem good_Paper__init__ : GoodM K "Paper" "__init__" ⟨n_Paper__init__, p_Paper__init__, c_Paper__init__.1, none⟩ := by
  obtain ⟨fd, F⟩ := Sy.def_ 55 (d := ⟨("Paper", some "__init__"), "__init__", "Paper.__init__", defArgs (mth 21 0), defBody (mth 21 0), defScope (mth 21 0), [], []⟩) rfl
  exact ⟨by decide +kernel, by decide +kernel, rfl, fd, _, _, _, _, _, F, FunD.bindsN (ps := p_Paper__init__) F (fun _ _ _ _ _ _ us hl => match us, hl with | [_, _], _ => by kernel_rfl), ⟨rfl, rfl, rfl, by decide +kernel, rfl, by decide +kernel, by decide +kernel⟩, fun l k => c_Paper__init__.2 l k⟩
theorem good_Paper__eq__ : GoodM K "Paper" "__eq__" ⟨n_Paper__eq__, p_Paper__eq__, c_Paper__eq__.1, none⟩ := by
  obtain ⟨fd, F⟩ := Sy.def_ 56 (d := ⟨("Paper", some "__eq__"), "__eq__", "Paper.__eq__", defArgs (mth 21 1), defBody (mth 21 1), defScope (mth 21 1), [], []⟩) rfl
  exact ⟨by decide +kernel, by decide +kernel, rfl, fd, _, _, _, _, _, F, FunD.bindsN (ps := p_Paper__eq__) F (fun _ _ _ _ _ _ us hl => match us, hl with | [_, _], _ => by kernel_rfl), ⟨rfl, rfl, rfl, by decide +kernel, rfl, by decide +kernel, by decide +kernel⟩, fun l k => c_Paper__eq__.2 l k⟩
theorem good_Paper__ne__ : GoodM K "Paper" "__ne__" ⟨n_Paper__ne__, p_Paper__ne__, c_Paper__ne__.1, none⟩ := by
  obtain ⟨fd, F⟩ := Sy.def_ 57 (d := ⟨("Paper", some "__ne__"), "__ne__", "Paper.__ne__", defArgs (mth 21 2), defBody (mth 21 2), defScope (mth 21 2), [], []⟩) rfl
  exact ⟨by decide +kernel, by decide +kernel, rfl, fd, _, _, _, _, _, F, FunD.bindsN (ps := p_Paper__ne__) F (fun _ _ _ _ _ _ us hl => match us, hl with | [_, _], _ => by kernel_rfl), ⟨rfl, rfl, rfl, by decide +kernel, rfl, by decide +kernel, by decide +kernel⟩, fun l k => c_Paper__ne__.2 l k⟩
theorem all_fn : ∀ p ∈ fnT, GoodF K p.1 p.2 := List.forall_mem_cons.mpr ⟨good_copied Sy,
    List.forall_mem_cons.mpr ⟨good_model_key Sy,
    List.forall_mem_cons.mpr ⟨good__law_pen Sy,
    List.forall_mem_cons.mpr ⟨good__law_draw Sy,
    List.forall_mem_cons.mpr ⟨good__law_pick Sy,
    List.forall_mem_cons.mpr ⟨good__law_value Sy,
    List.forall_mem_cons.mpr ⟨good__law_copy Sy,
    List.forall_mem_cons.mpr ⟨good__law_model_fields Sy,
    List.forall_mem_cons.mpr ⟨good__law_rows Sy,
    List.forall_mem_cons.mpr ⟨good__law_unlike Sy,
    List.forall_mem_nil _⟩⟩⟩⟩⟩⟩⟩⟩⟩⟩
theorem all_mt : ∀ p ∈ mtT, GoodM K p.1.1 p.1.2 p.2 := List.forall_mem_cons.mpr ⟨good_Stresses__init__ Sy,
    List.forall_mem_cons.mpr ⟨good_Stresses__eq__ Sy,
    List.forall_mem_cons.mpr ⟨good_Stresses__ne__ Sy,
    List.forall_mem_cons.mpr ⟨good_Stills__init__ Sy,
    List.forall_mem_cons.mpr ⟨good_Stills__eq__ Sy,
    List.forall_mem_cons.mpr ⟨good_Stills__ne__ Sy,
    List.forall_mem_cons.mpr ⟨good_Carries__init__ Sy,
    List.forall_mem_cons.mpr ⟨good_Carries__eq__ Sy,
    List.forall_mem_cons.mpr ⟨good_Carries__ne__ Sy,
    List.forall_mem_cons.mpr ⟨good_Yields__init__ Sy,
    List.forall_mem_cons.mpr ⟨good_Yields__eq__ Sy,
    List.forall_mem_cons.mpr ⟨good_Yields__ne__ Sy,
    List.forall_mem_cons.mpr ⟨good_Factor__init__ Sy,
    List.forall_mem_cons.mpr ⟨good_Factor__eq__ Sy,
    List.forall_mem_cons.mpr ⟨good_Factor__ne__ Sy,
    List.forall_mem_cons.mpr ⟨good_Endless__eq__ Sy,
    List.forall_mem_cons.mpr ⟨good_Endless__ne__ Sy,
    List.forall_mem_cons.mpr ⟨good_Range__init__ Sy,
    List.forall_mem_cons.mpr ⟨good_Range__eq__ Sy,
    List.forall_mem_cons.mpr ⟨good_Range__ne__ Sy,
    List.forall_mem_cons.mpr ⟨good_Moves__init__ Sy,
    List.forall_mem_cons.mpr ⟨good_Moves__eq__ Sy,
    List.forall_mem_cons.mpr ⟨good_Moves__ne__ Sy,
    List.forall_mem_cons.mpr ⟨good_Gives__init__ Sy,
    List.forall_mem_cons.mpr ⟨good_Gives__eq__ Sy,
    List.forall_mem_cons.mpr ⟨good_Gives__ne__ Sy,
    List.forall_mem_cons.mpr ⟨good_Moment__init__ Sy,
    List.forall_mem_cons.mpr ⟨good_Moment__eq__ Sy,
    List.forall_mem_cons.mpr ⟨good_Moment__ne__ Sy,
    List.forall_mem_cons.mpr ⟨good_Bends__init__ Sy,
    List.forall_mem_cons.mpr ⟨good_Bends__eq__ Sy,
    List.forall_mem_cons.mpr ⟨good_Bends__ne__ Sy,
    List.forall_mem_cons.mpr ⟨good_Loose__init__ Sy,
    List.forall_mem_cons.mpr ⟨good_Loose__eq__ Sy,
    List.forall_mem_cons.mpr ⟨good_Loose__ne__ Sy,
    List.forall_mem_cons.mpr ⟨good_Line__init__ Sy,
    List.forall_mem_cons.mpr ⟨good_Line__eq__ Sy,
    List.forall_mem_cons.mpr ⟨good_Line__ne__ Sy,
    List.forall_mem_cons.mpr ⟨good_Design__init__ Sy,
    List.forall_mem_cons.mpr ⟨good_Design__eq__ Sy,
    List.forall_mem_cons.mpr ⟨good_Design__ne__ Sy,
    List.forall_mem_cons.mpr ⟨good_Model__init__ Sy,
    List.forall_mem_cons.mpr ⟨good_Model__eq__ Sy,
    List.forall_mem_cons.mpr ⟨good_Model__ne__ Sy,
    List.forall_mem_cons.mpr ⟨good_Paper__init__ Sy,
    List.forall_mem_cons.mpr ⟨good_Paper__eq__ Sy,
    List.forall_mem_cons.mpr ⟨good_Paper__ne__ Sy,
    List.forall_mem_nil _⟩⟩⟩⟩⟩⟩⟩⟩⟩⟩⟩⟩⟩⟩⟩⟩⟩⟩⟩⟩⟩⟩⟩⟩⟩⟩⟩⟩⟩⟩⟩⟩⟩⟩⟩⟩⟩⟩⟩⟩⟩⟩⟩⟩⟩⟩⟩
end
end K90

namespace K90
open PySem PySem.Spec PyProof.Rows L2 PV
/-! ### lambdas -/
def GoodL (i : Nat) (e : E) : Prop := ∃ q p b scope, L90.src[i]? = some (q, p, b, scope) ∧ FnScope ["one"] ["one"] scope ∧ (∀ l k, SE (semL none false l) k ["one"] ⟨scope, true⟩ b e) ∧
  ∀ (pm cv ctv : Value) (us : List Value), us.length = (["one"] : List Str).length → bindArgs (PySem.W.kla_fn "<lambda>" q p b scope [] pm cv ctv) ⟨us, []⟩ = pure ((["one"] : List Str).zip us)
theorem goodL_0 : GoodL 0 l_0.1 := ⟨("_law_rows" : Str) ++ ".<locals>." ++ "<lambda>", (lamA 0).1, (lamA 0).2.1, (lamA 0).2.2, by kernel_rfl, ⟨rfl, rfl, rfl, by decide +kernel, rfl, by decide +kernel, by decide +kernel⟩, fun l k => l_0.2 l k, fun _ _ _ us hl => match us, hl with | [_], _ => by kernel_rfl⟩
theorem goodL_1 : GoodL 1 l_1.1 := ⟨("_law_rows" : Str) ++ ".<locals>." ++ "<lambda>", (lamA 1).1, (lamA 1).2.1, (lamA 1).2.2, by kernel_rfl, ⟨rfl, rfl, rfl, by decide +kernel, rfl, by decide +kernel, by decide +kernel⟩, fun l k => l_1.2 l k, fun _ _ _ us hl => match us, hl with | [_], _ => by kernel_rfl⟩
theorem goodL_2 : GoodL 2 l_2.1 := ⟨("_law_rows" : Str) ++ ".<locals>." ++ "<lambda>", (lamA 2).1, (lamA 2).2.1, (lamA 2).2.2, by kernel_rfl, ⟨rfl, rfl, rfl, by decide +kernel, rfl, by decide +kernel, by decide +kernel⟩, fun l k => l_2.2 l k, fun _ _ _ us hl => match us, hl with | [_], _ => by kernel_rfl⟩
theorem goodL_3 : GoodL 3 l_3.1 := ⟨("_law_rows" : Str) ++ ".<locals>." ++ "<lambda>", (lamA 3).1, (lamA 3).2.1, (lamA 3).2.2, by kernel_rfl, ⟨rfl, rfl, rfl, by decide +kernel, rfl, by decide +kernel, by decide +kernel⟩, fun l k => l_3.2 l k, fun _ _ _ us hl => match us, hl with | [_], _ => by kernel_rfl⟩
theorem goodL_4 : GoodL 4 l_4.1 := ⟨("_law_rows" : Str) ++ ".<locals>." ++ "<lambda>", (lamA 4).1, (lamA 4).2.1, (lamA 4).2.2, by kernel_rfl, ⟨rfl, rfl, rfl, by decide +kernel, rfl, by decide +kernel, by decide +kernel⟩, fun l k => l_4.2 l k, fun _ _ _ us hl => match us, hl with | [_], _ => by kernel_rfl⟩
theorem goodL_5 : GoodL 5 l_5.1 := ⟨("_law_rows" : Str) ++ ".<locals>." ++ "<lambda>", (lamA 5).1, (lamA 5).2.1, (lamA 5).2.2, by kernel_rfl, ⟨rfl, rfl, rfl, by decide +kernel, rfl, by decide +kernel, by decide +kernel⟩, fun l k => l_5.2 l k, fun _ _ _ us hl => match us, hl with | [_], _ => by kernel_rfl⟩
theorem goodL_6 : GoodL 6 l_6.1 := ⟨("_law_rows" : Str) ++ ".<locals>." ++ "<lambda>", (lamA 6).1, (lamA 6).2.1, (lamA 6).2.2, by kernel_rfl, ⟨rfl, rfl, rfl, by decide +kernel, rfl, by decide +kernel, by decide +kernel⟩, fun l k => l_6.2 l k, fun _ _ _ us hl => match us, hl with | [_], _ => by kernel_rfl⟩
theorem goodL_7 : GoodL 7 l_7.1 := ⟨("_law_rows" : Str) ++ ".<locals>." ++ "<lambda>", (lamA 7).1, (lamA 7).2.1, (lamA 7).2.2, by kernel_rfl, ⟨rfl, rfl, rfl, by decide +kernel, rfl, by decide +kernel, by decide +kernel⟩, fun l k => l_7.2 l k, fun _ _ _ us hl => match us, hl with | [_], _ => by kernel_rfl⟩
theorem goodL_8 : GoodL 8 l_8.1 := ⟨("_law_rows" : Str) ++ ".<locals>." ++ "<lambda>", (lamA 8).1, (lamA 8).2.1, (lamA 8).2.2, by kernel_rfl, ⟨rfl, rfl, rfl, by decide +kernel, rfl, by decide +kernel, by decide +kernel⟩, fun l k => l_8.2 l k, fun _ _ _ us hl => match us, hl with | [_], _ => by kernel_rfl⟩
theorem goodL_9 : GoodL 9 l_9.1 := ⟨("_law_rows" : Str) ++ ".<locals>." ++ "<lambda>", (lamA 9).1, (lamA 9).2.1, (lamA 9).2.2, by kernel_rfl, ⟨rfl, rfl, rfl, by decide +kernel, rfl, by decide +kernel, by decide +kernel⟩, fun l k => l_9.2 l k, fun _ _ _ us hl => match us, hl with | [_], _ => by kernel_rfl⟩
theorem goodL_10 : GoodL 10 l_10.1 := ⟨("_law_rows" : Str) ++ ".<locals>." ++ "<lambda>", (lamA 10).1, (lamA 10).2.1, (lamA 10).2.2, by kernel_rfl, ⟨rfl, rfl, rfl, by decide +kernel, rfl, by decide +kernel, by decide +kernel⟩, fun l k => l_10.2 l k, fun _ _ _ us hl => match us, hl with | [_], _ => by kernel_rfl⟩
theorem goodL_11 : GoodL 11 l_11.1 := ⟨("_law_rows" : Str) ++ ".<locals>." ++ "<lambda>", (lamA 11).1, (lamA 11).2.1, (lamA 11).2.2, by kernel_rfl, ⟨rfl, rfl, rfl, by decide +kernel, rfl, by decide +kernel, by decide +kernel⟩, fun l k => l_11.2 l k, fun _ _ _ us hl => match us, hl with | [_], _ => by kernel_rfl⟩
theorem goodL_12 : GoodL 12 l_12.1 := ⟨("_law_rows" : Str) ++ ".<locals>." ++ "<lambda>", (lamA 12).1, (lamA 12).2.1, (lamA 12).2.2, by kernel_rfl, ⟨rfl, rfl, rfl, by decide +kernel, rfl, by decide +kernel, by decide +kernel⟩, fun l k => l_12.2 l k, fun _ _ _ us hl => match us, hl with | [_], _ => by kernel_rfl⟩
theorem goodL_13 : GoodL 13 l_13.1 := ⟨("_law_rows" : Str) ++ ".<locals>." ++ "<lambda>", (lamA 13).1, (lamA 13).2.1, (lamA 13).2.2, by kernel_rfl, ⟨rfl, rfl, rfl, by decide +kernel, rfl, by decide +kernel, by decide +kernel⟩, fun l k => l_13.2 l k, fun _ _ _ us hl => match us, hl with | [_], _ => by kernel_rfl⟩
theorem goodL_14 : GoodL 14 l_14.1 := ⟨("_law_rows" : Str) ++ ".<locals>." ++ "<lambda>", (lamA 14).1, (lamA 14).2.1, (lamA 14).2.2, by kernel_rfl, ⟨rfl, rfl, rfl, by decide +kernel, rfl, by decide +kernel, by decide +kernel⟩, fun l k => l_14.2 l k, fun _ _ _ us hl => match us, hl with | [_], _ => by kernel_rfl⟩
theorem all_lm : ∀ (i : Nat) (e : E), lmT[i]? = some e → GoodL i e
  | 0, _, h => by cases h; exact goodL_0
  | 1, _, h => by cases h; exact goodL_1
  | 2, _, h => by cases h; exact goodL_2
  | 3, _, h => by cases h; exact goodL_3
  | 4, _, h => by cases h; exact goodL_4
  | 5, _, h => by cases h; exact goodL_5
  | 6, _, h => by cases h; exact goodL_6
  | 7, _, h => by cases h; exact goodL_7
  | 8, _, h => by cases h; exact goodL_8
  | 9, _, h => by cases h; exact goodL_9
  | 10, _, h => by cases h; exact goodL_10
  | 11, _, h => by cases h; exact goodL_11
  | 12, _, h => by cases h; exact goodL_12
  | 13, _, h => by cases h; exact goodL_13
  | 14, _, h => by cases h; exact goodL_14
  | i + 15, _, h => by
    have : lmT.length = 15 := rfl
    rw [List.getElem?_eq_none (by omega)] at h
    cases h
theorem fact_mem {fa : List He.Fa} {fn : List He.DefD} {K : PySem.W.Frag} (c : He.SaysD fa fn K) {f : He.Fa} (h : f ∈ fa) : f.ok K = true := by
  obtain ⟨i, hi⟩ := List.mem_iff_getElem?.mp h
  exact c.fact i hi
theorem mem_glo {x : Str} (h : x ∈ fns90 ∨ x ∈ cls90) : He.Fa.glo x ∈ fa90 := by
  unfold fa90
  exact List.mem_append_left _ (List.mem_map_of_mem (List.mem_append.mpr h))
theorem mem_free {x : Str} (h : x ∈ blts) : He.Fa.free x ∈ fa90 := by
  unfold fa90
  exact List.mem_append_right _ (List.mem_append_left _ (List.mem_map_of_mem h))
theorem mem_cls {x : Str} (h : x ∈ cls90) : He.Fa.cls x ∈ fa90 := by
  unfold fa90
  exact List.mem_append_right _ (List.mem_append_right _ (List.mem_append_left _ (List.mem_map_of_mem h)))
theorem mem_noat {p : Str × List Str} {f : Str} (h : p ∈ par90) (hf : f ∈ p.2) : He.Fa.noat p.1 f ∈ fa90 := by
  unfold fa90
  exact List.mem_append_right _ (List.mem_append_right _ (List.mem_append_right _ (List.mem_append_left _ (List.mem_flatMap.mpr ⟨p, h, List.mem_map_of_mem hf⟩))))
theorem mem_mkr {p : Str × List Str} (h : p ∈ par90) : He.Fa.mkr p.1 ∈ fa90 := by
  unfold fa90
  exact List.mem_append_right _ (List.mem_append_right _ (List.mem_append_right _ (List.mem_append_right _ (List.mem_append_left _ (List.mem_map_of_mem (f := fun p : Str × List Str => He.Fa.mkr p.1) h)))))
theorem mem_eq {x : Str} (h : x ∈ cls90) : He.Fa.meth x "__eq__" ∈ fa90 := by
  unfold fa90
  exact List.mem_append_right _ (List.mem_append_right _ (List.mem_append_right _ (List.mem_append_right _ (List.mem_append_right _ (List.mem_append_left _ (List.mem_map_of_mem (f := fun c => He.Fa.meth c "__eq__") h))))))
theorem mem_ne {x : Str} (h : x ∈ cls90) : He.Fa.meth x "__ne__" ∈ fa90 := by
  unfold fa90
  exact List.mem_append_right _ (List.mem_append_right _ (List.mem_append_right _ (List.mem_append_right _ (List.mem_append_right _ (List.mem_append_right _ (List.mem_append_left _ (List.mem_map_of_mem (f := fun c => He.Fa.meth c "__ne__") h)))))))
theorem mem_keep {x : Str} (h : x ∈ cls90) : He.Fa.keep x ∈ fa90 := by
  unfold fa90
  exact List.mem_append_right _ (List.mem_append_right _ (List.mem_append_right _ (List.mem_append_right _ (List.mem_append_right _ (List.mem_append_right _ (List.mem_append_right _ (List.mem_map_of_mem h)))))))
theorem par_cls : ∀ p ∈ par90, p.1 ∈ cls90 := by decide +kernel
theorem perm_ok : ∀ p ∈ permT, p.1.1 ∈ cls90 ∧ p.1.1 ≠ "Endless" ∧ (par90.lookup p.1.1).isSome = true := by decide +kernel
theorem none_of : ∀ c ∈ cls90, c = "Endless" ∨ (par90.lookup c).isSome = true := by decide +kernel
theorem lookup_mem {α β : Type} [BEq α] [LawfulBEq α] {a : α} {b : β} : ∀ {l : List (α × β)}, l.lookup a = some b → (a, b) ∈ l
  | [], h => by cases h
  | (x, y) :: l, h => by
    rw [List.lookup_cons] at h
    cases q : a == x with
    | true =>
      rw [q] at h
      cases h
      rw [eq_of_beq q]
      exact List.mem_cons_self ..
    | false =>
      rw [q] at h
      exact List.mem_cons_of_mem _ (lookup_mem h)
section
variable {w : World} {K : PySem.W.Frag} {mg : Str → Option Value} {base h : Heap} {c P : Addr} (Sy : He.SaysD fa90 fn90 K) (X : K.In h) (G : h.Ns mainGlobals mg) (ex : ex90 K = true) (tb : tabAt K "_law_rows" = some (c, P)) (TB : LamX.TabB base mg c P)
include Sy X G
theorem glo_at {x : Str} (hx : x ∈ fns90 ∨ x ∈ cls90) : mg x = some (.ref (He.ga K x)) := He.glo_ok X G (fact_mem Sy (mem_glo hx))
theorem cls_eq {x : Str} {CA : Addr} (hx : x ∈ cls90) (h : mg x = some (.ref CA)) : CA = He.ga K x := by
  rw [glo_at Sy X G (.inr hx)] at h
  cases h; rfl
include tb in
theorem tabs_at : tabs L90 K mg = [(P, ("_law_rows" : Str) ++ ".<locals>." ++ "<lambda>")] ∧ ∀ oc od fd' osl, K.lookup (He.ga K "_law_rows") = some ⟨oc, od, .func fd', osl⟩ → fd'.code = .ref c := by
  have g : mg "_law_rows" = some (.ref (He.ga K "_law_rows")) := glo_at Sy X G (.inl (by decide +kernel))
  unfold tabAt at tb
  split at tb
  · rename_i oc od fd sl e1
    split at tb
    · rename_i c' e2
      split at tb
      · rename_i oc2 od2 us sl2 e3
        split at tb
        · rename_i P' e4
          cases tb
          refine ⟨?_, fun oc od fd' osl q => ?_⟩
          · show List.filterMap _ [("_law_rows" : Str)] = _
            rw [List.filterMap_cons]
            rw [g]
            dsimp only
            rw [e1]
            dsimp only
            rw [e2]
            dsimp only
            rw [e3]
            dsimp only
            rw [e4]
            rfl
          · rw [e1] at q
            cases q
            exact e2
        · cases tb
      · cases tb
    · cases tb
  · cases tb
include tb TB in
theorem lm_ok {f : Str} {e : Ent} (hh : e.here = none ∨ (e.here = some f ∧ f = "_law_rows")) : LmOk L90 e.here K mg base f (He.ga K f) := by
  intro g hg
  rcases hh with z | ⟨z, rfl⟩
  · rw [z] at hg; cases hg
  · rw [z] at hg
    cases hg
    obtain ⟨t1, t2⟩ := tabs_at Sy X G tb
    exact ⟨rfl, c, P, TB, t1, t2⟩
include tb TB in
theorem ok_fn {k : Nat} (fct : ∀ hh r, Fct (semL hh r (lv k)) k PRG w K mg base) {f : Str} {e : Ent} (hl : fnT.lookup f = some e) : ∃ fa fd ps, mg f = some (.ref fa) ∧ PySem.W.keepIn K (.ref fa) = true ∧ Binds K fd ps [] ∧ FnOk PRG w K mg base CX0 (k + 1) fa fd ps (spF L90 ((lv (k + 1)).cl f) K mg) := by
  obtain ⟨hf, fd, params, body, scope, F, B, S, hc, hh⟩ := all_fn Sy _ (lookup_mem hl)
  refine ⟨_, fd, _, glo_at Sy X G (.inl hf), F.kp, B, ?_⟩
  have q : (lv (k + 1)).cl f = callC (semL e.here false (lv k)) e.N.length e.ps.length e.code := by
    show (match fnT.lookup f with | some e => callC (semL e.here false (lv k)) e.N.length e.ps.length e.code | none => fun _ _ => .bad) = _
    rw [hl]
  rw [q]
  exact fnok_of (M := semL e.here false (lv k)) F S (hc (lv k) k) (fct e.here false) rfl (lm_ok Sy X G tb TB hh)
omit Sy X G in
theorem fnok_bad {k : Nat} {f : Addr} {fd : FuncData} {ps : List Str} : FnOk PRG w K mg base CX0 k f fd ps (spF L90 (fun _ _ => .bad) K mg) := ⟨fun vs H Q E h => (by obtain ⟨_, _, _, _, _, _, _, ev, _⟩ := h; cases ev), fun A outer s H args us vs Q E _ _ _ _ h => (by obtain ⟨_, _, _, _, _, _, _, ev, _⟩ := h; cases ev)⟩
/-- methods, at any level -/
theorem ok_mt {k : Nat} (fct : ∀ j, k = j + 1 → ∀ hh r, Fct (semL hh r (lv j)) j PRG w K mg base) {cn m : Str} {e : Ent} (hl : mtT.lookup (cn, m) = some e) : cn ∈ cls90 ∧ (m = "__eq__" ∨ m = "__ne__" ∨ m = "__init__") ∧ ∃ fd qual params body scope dvs ps, FunD K m qual params body scope dvs [] (He.ma K (He.ga K cn) m) fd ∧ Binds K fd ps [] ∧ FnOk PRG w K mg base CX0 k (He.ma K (He.ga K cn) m) fd ps (spF L90 ((lv k).mc cn m) K mg) := by
  obtain ⟨hc, hm, hh, fd, qual, params, body, scope, dvs, F, B, S, hc2⟩ := all_mt Sy _ (lookup_mem hl)
  refine ⟨hc, hm, fd, qual, params, body, scope, dvs, _, F, B, ?_⟩
  cases k with
  | zero => exact fnok_bad
  | succ j =>
    have q : (lv (j + 1)).mc cn m = callC (semL e.here false (lv j)) e.N.length e.ps.length e.code := by
      show (match mtT.lookup (cn, m) with | some e => callC (semL e.here false (lv j)) e.N.length e.ps.length e.code | none => fun _ _ => .bad) = _
      rw [hl]
    rw [q, hh]
    exact fnok_of (M := semL none false (lv j)) F S (hc2 (lv j) j) (fct j rfl none false) rfl (fun g hg => by cases hg)
include ex
theorem cls_ok {x : Str} (hx : x ∈ cls90) : clsO K (He.ga K x) = true ∧ PySem.W.findIn K (.ref (He.ga K x)) "__class__" = some (some (.builtin "object.__class__")) := by
  have e := ex
  unfold ex90 at e
  simp only [Bool.and_eq_true] at e
  have z := List.all_eq_true.mp e.1.1.1 x hx
  rw [Bool.and_eq_true] at z
  exact ⟨z.1, He.eqO_ok z.2⟩
theorem cls_ne {x y : Str} (hx : x ∈ cls90) (hy : y ∈ cls90) (h : x ≠ y) : He.ga K x ≠ He.ga K y := by
  have e := ex
  unfold ex90 at e
  simp only [Bool.and_eq_true, decide_eq_true_eq] at e
  have nd := e.1.1.2
  obtain ⟨i, hi⟩ := List.mem_iff_getElem?.mp hx
  obtain ⟨j, hj⟩ := List.mem_iff_getElem?.mp hy
  intro q
  have g1 : (cls90.map (He.ga K))[i]? = some (He.ga K x) := by rw [List.getElem?_map, hi]; rfl
  have g2 : (cls90.map (He.ga K))[j]? = some (He.ga K y) := by rw [List.getElem?_map, hj]; rfl
  obtain ⟨h1, e1⟩ := List.getElem?_eq_some_iff.mp g1
  obtain ⟨h2, e2⟩ := List.getElem?_eq_some_iff.mp g2
  have ij : i = j := (List.getElem_inj nd).mp (e1.trans (q.trans e2.symm))
  subst ij
  rw [hi] at hj
  exact h (Option.some.inj hj)
theorem endless_ok : PySem.W.makesIn K (He.ga K "Endless") = true ∧ PySem.W.findIn K (.ref (He.ga K "Endless")) "__init__" = some (some (.builtin "object.__init__")) := by
  have e := ex
  unfold ex90 at e
  simp only [Bool.and_eq_true] at e
  exact ⟨e.1.2.1, He.eqO_ok e.1.2.2⟩
omit Sy X G in
theorem dflt_ok {π : List Addr} {H : Hp} : Reps L90 K mg π H [.tup []] [.ref (He.dflAt ("Model", some "__init__") 0 K)] := by
  have e := ex
  unfold ex90 at e
  simp only [Bool.and_eq_true] at e
  have z := e.2
  split at z
  · rename_i c dd its n sl hk
    rw [Bool.and_eq_true, beq_iff_eq, beq_iff_eq] at z
    obtain ⟨z1, z2⟩ := z
    refine ⟨_, [], rfl, ⟨_, [], rfl, .inr ⟨_, its, n, hk, by rw [z1], rfl, by rw [z2]; exact Nat.zero_le _, ?_⟩, rfl⟩, rfl⟩
    rw [Array.eq_empty_of_size_eq_zero z2]
    exact .nil
  · cases z
omit Sy X G ex in
/-- Model(..) with the last argument left out -/
theorem model_binds {fd : FuncData} {f : Addr} {v : V} (F : FunD K "__init__" "Model.__init__" (defArgs (mth 18 0)) (defBody (mth 18 0)) (defScope (mth 18 0)) [v] [] f fd) : ∃ ds, Vals [v] ds ∧ Binds K fd p_Model__init__ ds :=
  FunD.binds1 (ps := p_Model__init__) F 6 0 (fun h => nomatch h) rfl (fun T kV doc pm an cdv ct us its h1 h2 => match us, its, h1, h2 with | [_, _, _, _, _, _], [_], _, _ => ⟨_, rfl, by kernel_rfl⟩)
omit Sy X G ex in
theorem ok_mt' {k : Nat} (fct : ∀ j, k = j + 1 → ∀ hh r, Fct (semL hh r (lv j)) j PRG w K mg base) {cn m : Str} {e : Ent} (hl : mtT.lookup (cn, m) = some e) (hh : e.here = none) {fd : FuncData} {qual : Str} {params : Arguments} {body : List Stmt} {scope : Scope} {dvs : List V} {f : Addr}
    (F : FunD K m qual params body scope dvs [] f fd) (S : FnScope e.N e.ps scope) (hc : ∀ l k, SSs (semL none false l) k e.N ⟨scope, true⟩ 0 body e.code) : FnOk PRG w K mg base CX0 k f fd e.ps (spF L90 ((lv k).mc cn m) K mg) := by
  cases k with
  | zero => exact fnok_bad
  | succ j =>
    have q : (lv (j + 1)).mc cn m = callC (semL e.here false (lv j)) e.N.length e.ps.length e.code := by
      show (match mtT.lookup (cn, m) with | some e => callC (semL e.here false (lv j)) e.N.length e.ps.length e.code | none => fun _ _ => .bad) = _
      rw [hl]
    rw [q, hh]
    exact fnok_of (M := semL none false (lv j)) F S (hc (lv j) j) (fct j rfl none false) rfl (fun g hg => by cases hg)
omit Sy X G ex in
theorem mkL_eq {mc : Str → Str → List D → Sto → Res D} {cn : Str} {ps : List Str} (h1 : cn ≠ "Endless") (h2 : cn ≠ "Model") (h3 : par90.lookup cn = some ps) : mkL mc cn = makeC (mc cn "__init__") cn [] := by
  funext ds S
  unfold mkL
  rw [if_neg h1, h3]
  dsimp only
  have q : (if ds.length < ps.length then dfl90 cn else []) = [] := by
    split
    · unfold dfl90
      rw [if_neg h2]
    · rfl
  rw [q]
omit Sy X G ex in
theorem perm_rel {perm : List Nat} {zs : List V} {ws : List Value} (r : Vals zs ws) : Vals (perm.filterMap fun i => zs[i]?) (perm.filterMap fun i => ws[i]?) := by
  induction perm with
  | nil => exact .nil
  | cons i perm ih =>
    rw [List.filterMap_cons, List.filterMap_cons]
    cases e : zs[i]? with
    | none => rw [r.none_of e]; exact ih
    | some v =>
      obtain ⟨u, hu, ru⟩ := r.get e
      rw [hu]
      exact .cons ru ih
theorem mk_Stresses {k : Nat} (fct : ∀ j, k = j + 1 → ∀ hh r, Fct (semL hh r (lv j)) j PRG w K mg base) : MkF L90 (mkL (lv k).mc "Stresses") (k + 1) PRG w K mg base (He.ga K "Stresses") ∧ MkK L90 (mkL (lv k).mc "Stresses") (k + 1) PRG w K mg base (He.ga K "Stresses") ["rows"] [0] := by
  obtain ⟨fd, F⟩ := Sy.def_ 11 (d := ⟨("Stresses", some "__init__"), "__init__", "Stresses.__init__", defArgs (mth 3 0), defBody (mth 3 0), defScope (mth 3 0), [], []⟩) rfl
  have Fo := ok_mt' fct (cn := "Stresses") (m := "__init__") (e := ⟨n_Stresses__init__, p_Stresses__init__, c_Stresses__init__.1, none⟩) (by kernel_rfl) rfl F ⟨rfl, rfl, rfl, by decide +kernel, rfl, by decide +kernel, by decide +kernel⟩ (fun l k => c_Stresses__init__.2 l k)
  have gl := glo_at Sy X G (x := "Stresses") (.inr (by decide +kernel))
  have mk := He.mkr_ok (fact_mem Sy (mem_mkr (p := ("Stresses", ["rows"])) (by decide +kernel)))
  rw [mkL_eq (ps := ["rows"]) (by decide +kernel) (by decide +kernel) (by decide +kernel)]
  exact ⟨mkf_of (dvs := []) (dd := []) gl mk Fo (FunD.bindsN (ps := p_Stresses__init__) F (fun _ _ _ _ _ _ us hl => match us, hl with | [_, _], _ => by kernel_rfl)) .nil (fun _ _ => rfl),
    mkk_of (dvs := []) (dd := []) gl mk Fo (kbn0 (ps := p_Stresses__init__) (ks := ["rows"]) (perm := [0]) F (fun _ _ _ _ _ _ _ ws hl => match ws, hl with | [_], _ => by kernel_rfl)) (fun _ _ => rfl)⟩
theorem mk_Stills {k : Nat} (fct : ∀ j, k = j + 1 → ∀ hh r, Fct (semL hh r (lv j)) j PRG w K mg base) : MkF L90 (mkL (lv k).mc "Stills") (k + 1) PRG w K mg base (He.ga K "Stills") ∧ MkK L90 (mkL (lv k).mc "Stills") (k + 1) PRG w K mg base (He.ga K "Stills") ["rows"] [0] := by
  obtain ⟨fd, F⟩ := Sy.def_ 14 (d := ⟨("Stills", some "__init__"), "__init__", "Stills.__init__", defArgs (mth 4 0), defBody (mth 4 0), defScope (mth 4 0), [], []⟩) rfl
  have Fo := ok_mt' fct (cn := "Stills") (m := "__init__") (e := ⟨n_Stills__init__, p_Stills__init__, c_Stills__init__.1, none⟩) (by kernel_rfl) rfl F ⟨rfl, rfl, rfl, by decide +kernel, rfl, by decide +kernel, by decide +kernel⟩ (fun l k => c_Stills__init__.2 l k)
  have gl := glo_at Sy X G (x := "Stills") (.inr (by decide +kernel))
  have mk := He.mkr_ok (fact_mem Sy (mem_mkr (p := ("Stills", ["rows"])) (by decide +kernel)))
  rw [mkL_eq (ps := ["rows"]) (by decide +kernel) (by decide +kernel) (by decide +kernel)]
  exact ⟨mkf_of (dvs := []) (dd := []) gl mk Fo (FunD.bindsN (ps := p_Stills__init__) F (fun _ _ _ _ _ _ us hl => match us, hl with | [_, _], _ => by kernel_rfl)) .nil (fun _ _ => rfl),
    mkk_of (dvs := []) (dd := []) gl mk Fo (kbn0 (ps := p_Stills__init__) (ks := ["rows"]) (perm := [0]) F (fun _ _ _ _ _ _ _ ws hl => match ws, hl with | [_], _ => by kernel_rfl)) (fun _ _ => rfl)⟩
theorem mk_Carries {k : Nat} (fct : ∀ j, k = j + 1 → ∀ hh r, Fct (semL hh r (lv j)) j PRG w K mg base) : MkF L90 (mkL (lv k).mc "Carries") (k + 1) PRG w K mg base (He.ga K "Carries") ∧ MkK L90 (mkL (lv k).mc "Carries") (k + 1) PRG w K mg base (He.ga K "Carries") ["forces"] [0] := by
  obtain ⟨fd, F⟩ := Sy.def_ 17 (d := ⟨("Carries", some "__init__"), "__init__", "Carries.__init__", defArgs (mth 5 0), defBody (mth 5 0), defScope (mth 5 0), [], []⟩) rfl
  have Fo := ok_mt' fct (cn := "Carries") (m := "__init__") (e := ⟨n_Carries__init__, p_Carries__init__, c_Carries__init__.1, none⟩) (by kernel_rfl) rfl F ⟨rfl, rfl, rfl, by decide +kernel, rfl, by decide +kernel, by decide +kernel⟩ (fun l k => c_Carries__init__.2 l k)
  have gl := glo_at Sy X G (x := "Carries") (.inr (by decide +kernel))
  have mk := He.mkr_ok (fact_mem Sy (mem_mkr (p := ("Carries", ["forces"])) (by decide +kernel)))
  rw [mkL_eq (ps := ["forces"]) (by decide +kernel) (by decide +kernel) (by decide +kernel)]
  exact ⟨mkf_of (dvs := []) (dd := []) gl mk Fo (FunD.bindsN (ps := p_Carries__init__) F (fun _ _ _ _ _ _ us hl => match us, hl with | [_, _], _ => by kernel_rfl)) .nil (fun _ _ => rfl),
    mkk_of (dvs := []) (dd := []) gl mk Fo (kbn0 (ps := p_Carries__init__) (ks := ["forces"]) (perm := [0]) F (fun _ _ _ _ _ _ _ ws hl => match ws, hl with | [_], _ => by kernel_rfl)) (fun _ _ => rfl)⟩
theorem mk_Yields {k : Nat} (fct : ∀ j, k = j + 1 → ∀ hh r, Fct (semL hh r (lv j)) j PRG w K mg base) : MkF L90 (mkL (lv k).mc "Yields") (k + 1) PRG w K mg base (He.ga K "Yields") ∧ MkK L90 (mkL (lv k).mc "Yields") (k + 1) PRG w K mg base (He.ga K "Yields") ["kinks", "motion"] [1, 0] := by
  obtain ⟨fd, F⟩ := Sy.def_ 20 (d := ⟨("Yields", some "__init__"), "__init__", "Yields.__init__", defArgs (mth 6 0), defBody (mth 6 0), defScope (mth 6 0), [], []⟩) rfl
  have Fo := ok_mt' fct (cn := "Yields") (m := "__init__") (e := ⟨n_Yields__init__, p_Yields__init__, c_Yields__init__.1, none⟩) (by kernel_rfl) rfl F ⟨rfl, rfl, rfl, by decide +kernel, rfl, by decide +kernel, by decide +kernel⟩ (fun l k => c_Yields__init__.2 l k)
  have gl := glo_at Sy X G (x := "Yields") (.inr (by decide +kernel))
  have mk := He.mkr_ok (fact_mem Sy (mem_mkr (p := ("Yields", ["motion", "kinks"])) (by decide +kernel)))
  rw [mkL_eq (ps := ["motion", "kinks"]) (by decide +kernel) (by decide +kernel) (by decide +kernel)]
  exact ⟨mkf_of (dvs := []) (dd := []) gl mk Fo (FunD.bindsN (ps := p_Yields__init__) F (fun _ _ _ _ _ _ us hl => match us, hl with | [_, _, _], _ => by kernel_rfl)) .nil (fun _ _ => rfl),
    mkk_of (dvs := []) (dd := []) gl mk Fo (kbn0 (ps := p_Yields__init__) (ks := ["kinks", "motion"]) (perm := [1, 0]) F (fun _ _ _ _ _ _ _ ws hl => match ws, hl with | [_, _], _ => by kernel_rfl)) (fun _ _ => rfl)⟩
theorem mk_Factor {k : Nat} (fct : ∀ j, k = j + 1 → ∀ hh r, Fct (semL hh r (lv j)) j PRG w K mg base) : MkF L90 (mkL (lv k).mc "Factor") (k + 1) PRG w K mg base (He.ga K "Factor") ∧ MkK L90 (mkL (lv k).mc "Factor") (k + 1) PRG w K mg base (He.ga K "Factor") ["ratio"] [0] := by
  obtain ⟨fd, F⟩ := Sy.def_ 23 (d := ⟨("Factor", some "__init__"), "__init__", "Factor.__init__", defArgs (mth 7 0), defBody (mth 7 0), defScope (mth 7 0), [], []⟩) rfl
  have Fo := ok_mt' fct (cn := "Factor") (m := "__init__") (e := ⟨n_Factor__init__, p_Factor__init__, c_Factor__init__.1, none⟩) (by kernel_rfl) rfl F ⟨rfl, rfl, rfl, by decide +kernel, rfl, by decide +kernel, by decide +kernel⟩ (fun l k => c_Factor__init__.2 l k)
  have gl := glo_at Sy X G (x := "Factor") (.inr (by decide +kernel))
  have mk := He.mkr_ok (fact_mem Sy (mem_mkr (p := ("Factor", ["ratio"])) (by decide +kernel)))
  rw [mkL_eq (ps := ["ratio"]) (by decide +kernel) (by decide +kernel) (by decide +kernel)]
  exact ⟨mkf_of (dvs := []) (dd := []) gl mk Fo (FunD.bindsN (ps := p_Factor__init__) F (fun _ _ _ _ _ _ us hl => match us, hl with | [_, _], _ => by kernel_rfl)) .nil (fun _ _ => rfl),
    mkk_of (dvs := []) (dd := []) gl mk Fo (kbn0 (ps := p_Factor__init__) (ks := ["ratio"]) (perm := [0]) F (fun _ _ _ _ _ _ _ ws hl => match ws, hl with | [_], _ => by kernel_rfl)) (fun _ _ => rfl)⟩
theorem mk_Range {k : Nat} (fct : ∀ j, k = j + 1 → ∀ hh r, Fct (semL hh r (lv j)) j PRG w K mg base) : MkF L90 (mkL (lv k).mc "Range") (k + 1) PRG w K mg base (He.ga K "Range") ∧ MkK L90 (mkL (lv k).mc "Range") (k + 1) PRG w K mg base (He.ga K "Range") ["high", "low"] [1, 0] := by
  obtain ⟨fd, F⟩ := Sy.def_ 28 (d := ⟨("Range", some "__init__"), "__init__", "Range.__init__", defArgs (mth 9 0), defBody (mth 9 0), defScope (mth 9 0), [], []⟩) rfl
  have Fo := ok_mt' fct (cn := "Range") (m := "__init__") (e := ⟨n_Range__init__, p_Range__init__, c_Range__init__.1, none⟩) (by kernel_rfl) rfl F ⟨rfl, rfl, rfl, by decide +kernel, rfl, by decide +kernel, by decide +kernel⟩ (fun l k => c_Range__init__.2 l k)
  have gl := glo_at Sy X G (x := "Range") (.inr (by decide +kernel))
  have mk := He.mkr_ok (fact_mem Sy (mem_mkr (p := ("Range", ["low", "high"])) (by decide +kernel)))
  rw [mkL_eq (ps := ["low", "high"]) (by decide +kernel) (by decide +kernel) (by decide +kernel)]
  exact ⟨mkf_of (dvs := []) (dd := []) gl mk Fo (FunD.bindsN (ps := p_Range__init__) F (fun _ _ _ _ _ _ us hl => match us, hl with | [_, _, _], _ => by kernel_rfl)) .nil (fun _ _ => rfl),
    mkk_of (dvs := []) (dd := []) gl mk Fo (kbn0 (ps := p_Range__init__) (ks := ["high", "low"]) (perm := [1, 0]) F (fun _ _ _ _ _ _ _ ws hl => match ws, hl with | [_, _], _ => by kernel_rfl)) (fun _ _ => rfl)⟩
theorem mk_Moves {k : Nat} (fct : ∀ j, k = j + 1 → ∀ hh r, Fct (semL hh r (lv j)) j PRG w K mg base) : MkF L90 (mkL (lv k).mc "Moves") (k + 1) PRG w K mg base (He.ga K "Moves") ∧ MkK L90 (mkL (lv k).mc "Moves") (k + 1) PRG w K mg base (He.ga K "Moves") ["forces"] [0] := by
  obtain ⟨fd, F⟩ := Sy.def_ 31 (d := ⟨("Moves", some "__init__"), "__init__", "Moves.__init__", defArgs (mth 10 0), defBody (mth 10 0), defScope (mth 10 0), [], []⟩) rfl
  have Fo := ok_mt' fct (cn := "Moves") (m := "__init__") (e := ⟨n_Moves__init__, p_Moves__init__, c_Moves__init__.1, none⟩) (by kernel_rfl) rfl F ⟨rfl, rfl, rfl, by decide +kernel, rfl, by decide +kernel, by decide +kernel⟩ (fun l k => c_Moves__init__.2 l k)
  have gl := glo_at Sy X G (x := "Moves") (.inr (by decide +kernel))
  have mk := He.mkr_ok (fact_mem Sy (mem_mkr (p := ("Moves", ["forces"])) (by decide +kernel)))
  rw [mkL_eq (ps := ["forces"]) (by decide +kernel) (by decide +kernel) (by decide +kernel)]
  exact ⟨mkf_of (dvs := []) (dd := []) gl mk Fo (FunD.bindsN (ps := p_Moves__init__) F (fun _ _ _ _ _ _ us hl => match us, hl with | [_, _], _ => by kernel_rfl)) .nil (fun _ _ => rfl),
    mkk_of (dvs := []) (dd := []) gl mk Fo (kbn0 (ps := p_Moves__init__) (ks := ["forces"]) (perm := [0]) F (fun _ _ _ _ _ _ _ ws hl => match ws, hl with | [_], _ => by kernel_rfl)) (fun _ _ => rfl)⟩
theorem mk_Gives {k : Nat} (fct : ∀ j, k = j + 1 → ∀ hh r, Fct (semL hh r (lv j)) j PRG w K mg base) : MkF L90 (mkL (lv k).mc "Gives") (k + 1) PRG w K mg base (He.ga K "Gives") ∧ MkK L90 (mkL (lv k).mc "Gives") (k + 1) PRG w K mg base (He.ga K "Gives") ["motion"] [0] := by
  obtain ⟨fd, F⟩ := Sy.def_ 34 (d := ⟨("Gives", some "__init__"), "__init__", "Gives.__init__", defArgs (mth 11 0), defBody (mth 11 0), defScope (mth 11 0), [], []⟩) rfl
  have Fo := ok_mt' fct (cn := "Gives") (m := "__init__") (e := ⟨n_Gives__init__, p_Gives__init__, c_Gives__init__.1, none⟩) (by kernel_rfl) rfl F ⟨rfl, rfl, rfl, by decide +kernel, rfl, by decide +kernel, by decide +kernel⟩ (fun l k => c_Gives__init__.2 l k)
  have gl := glo_at Sy X G (x := "Gives") (.inr (by decide +kernel))
  have mk := He.mkr_ok (fact_mem Sy (mem_mkr (p := ("Gives", ["motion"])) (by decide +kernel)))
  rw [mkL_eq (ps := ["motion"]) (by decide +kernel) (by decide +kernel) (by decide +kernel)]
  exact ⟨mkf_of (dvs := []) (dd := []) gl mk Fo (FunD.bindsN (ps := p_Gives__init__) F (fun _ _ _ _ _ _ us hl => match us, hl with | [_, _], _ => by kernel_rfl)) .nil (fun _ _ => rfl),
    mkk_of (dvs := []) (dd := []) gl mk Fo (kbn0 (ps := p_Gives__init__) (ks := ["motion"]) (perm := [0]) F (fun _ _ _ _ _ _ _ ws hl => match ws, hl with | [_], _ => by kernel_rfl)) (fun _ _ => rfl)⟩
theorem mk_Moment {k : Nat} (fct : ∀ j, k = j + 1 → ∀ hh r, Fct (semL hh r (lv j)) j PRG w K mg base) : MkF L90 (mkL (lv k).mc "Moment") (k + 1) PRG w K mg base (He.ga K "Moment") ∧ MkK L90 (mkL (lv k).mc "Moment") (k + 1) PRG w K mg base (He.ga K "Moment") ["ratio"] [0] := by
  obtain ⟨fd, F⟩ := Sy.def_ 37 (d := ⟨("Moment", some "__init__"), "__init__", "Moment.__init__", defArgs (mth 12 0), defBody (mth 12 0), defScope (mth 12 0), [], []⟩) rfl
  have Fo := ok_mt' fct (cn := "Moment") (m := "__init__") (e := ⟨n_Moment__init__, p_Moment__init__, c_Moment__init__.1, none⟩) (by kernel_rfl) rfl F ⟨rfl, rfl, rfl, by decide +kernel, rfl, by decide +kernel, by decide +kernel⟩ (fun l k => c_Moment__init__.2 l k)
  have gl := glo_at Sy X G (x := "Moment") (.inr (by decide +kernel))
  have mk := He.mkr_ok (fact_mem Sy (mem_mkr (p := ("Moment", ["ratio"])) (by decide +kernel)))
  rw [mkL_eq (ps := ["ratio"]) (by decide +kernel) (by decide +kernel) (by decide +kernel)]
  exact ⟨mkf_of (dvs := []) (dd := []) gl mk Fo (FunD.bindsN (ps := p_Moment__init__) F (fun _ _ _ _ _ _ us hl => match us, hl with | [_, _], _ => by kernel_rfl)) .nil (fun _ _ => rfl),
    mkk_of (dvs := []) (dd := []) gl mk Fo (kbn0 (ps := p_Moment__init__) (ks := ["ratio"]) (perm := [0]) F (fun _ _ _ _ _ _ _ ws hl => match ws, hl with | [_], _ => by kernel_rfl)) (fun _ _ => rfl)⟩
theorem mk_Bends {k : Nat} (fct : ∀ j, k = j + 1 → ∀ hh r, Fct (semL hh r (lv j)) j PRG w K mg base) : MkF L90 (mkL (lv k).mc "Bends") (k + 1) PRG w K mg base (He.ga K "Bends") ∧ MkK L90 (mkL (lv k).mc "Bends") (k + 1) PRG w K mg base (He.ga K "Bends") ["ratio"] [0] := by
  obtain ⟨fd, F⟩ := Sy.def_ 40 (d := ⟨("Bends", some "__init__"), "__init__", "Bends.__init__", defArgs (mth 13 0), defBody (mth 13 0), defScope (mth 13 0), [], []⟩) rfl
  have Fo := ok_mt' fct (cn := "Bends") (m := "__init__") (e := ⟨n_Bends__init__, p_Bends__init__, c_Bends__init__.1, none⟩) (by kernel_rfl) rfl F ⟨rfl, rfl, rfl, by decide +kernel, rfl, by decide +kernel, by decide +kernel⟩ (fun l k => c_Bends__init__.2 l k)
  have gl := glo_at Sy X G (x := "Bends") (.inr (by decide +kernel))
  have mk := He.mkr_ok (fact_mem Sy (mem_mkr (p := ("Bends", ["ratio"])) (by decide +kernel)))
  rw [mkL_eq (ps := ["ratio"]) (by decide +kernel) (by decide +kernel) (by decide +kernel)]
  exact ⟨mkf_of (dvs := []) (dd := []) gl mk Fo (FunD.bindsN (ps := p_Bends__init__) F (fun _ _ _ _ _ _ us hl => match us, hl with | [_, _], _ => by kernel_rfl)) .nil (fun _ _ => rfl),
    mkk_of (dvs := []) (dd := []) gl mk Fo (kbn0 (ps := p_Bends__init__) (ks := ["ratio"]) (perm := [0]) F (fun _ _ _ _ _ _ _ ws hl => match ws, hl with | [_], _ => by kernel_rfl)) (fun _ _ => rfl)⟩
theorem mk_Loose {k : Nat} (fct : ∀ j, k = j + 1 → ∀ hh r, Fct (semL hh r (lv j)) j PRG w K mg base) : MkF L90 (mkL (lv k).mc "Loose") (k + 1) PRG w K mg base (He.ga K "Loose") ∧ MkK L90 (mkL (lv k).mc "Loose") (k + 1) PRG w K mg base (He.ga K "Loose") ["motion"] [0] := by
  obtain ⟨fd, F⟩ := Sy.def_ 43 (d := ⟨("Loose", some "__init__"), "__init__", "Loose.__init__", defArgs (mth 14 0), defBody (mth 14 0), defScope (mth 14 0), [], []⟩) rfl
  have Fo := ok_mt' fct (cn := "Loose") (m := "__init__") (e := ⟨n_Loose__init__, p_Loose__init__, c_Loose__init__.1, none⟩) (by kernel_rfl) rfl F ⟨rfl, rfl, rfl, by decide +kernel, rfl, by decide +kernel, by decide +kernel⟩ (fun l k => c_Loose__init__.2 l k)
  have gl := glo_at Sy X G (x := "Loose") (.inr (by decide +kernel))
  have mk := He.mkr_ok (fact_mem Sy (mem_mkr (p := ("Loose", ["motion"])) (by decide +kernel)))
  rw [mkL_eq (ps := ["motion"]) (by decide +kernel) (by decide +kernel) (by decide +kernel)]
  exact ⟨mkf_of (dvs := []) (dd := []) gl mk Fo (FunD.bindsN (ps := p_Loose__init__) F (fun _ _ _ _ _ _ us hl => match us, hl with | [_, _], _ => by kernel_rfl)) .nil (fun _ _ => rfl),
    mkk_of (dvs := []) (dd := []) gl mk Fo (kbn0 (ps := p_Loose__init__) (ks := ["motion"]) (perm := [0]) F (fun _ _ _ _ _ _ _ ws hl => match ws, hl with | [_], _ => by kernel_rfl)) (fun _ _ => rfl)⟩
theorem mk_Line {k : Nat} (fct : ∀ j, k = j + 1 → ∀ hh r, Fct (semL hh r (lv j)) j PRG w K mg base) : MkF L90 (mkL (lv k).mc "Line") (k + 1) PRG w K mg base (He.ga K "Line") ∧ MkK L90 (mkL (lv k).mc "Line") (k + 1) PRG w K mg base (He.ga K "Line") ["pieces"] [0] := by
  obtain ⟨fd, F⟩ := Sy.def_ 46 (d := ⟨("Line", some "__init__"), "__init__", "Line.__init__", defArgs (mth 15 0), defBody (mth 15 0), defScope (mth 15 0), [], []⟩) rfl
  have Fo := ok_mt' fct (cn := "Line") (m := "__init__") (e := ⟨n_Line__init__, p_Line__init__, c_Line__init__.1, none⟩) (by kernel_rfl) rfl F ⟨rfl, rfl, rfl, by decide +kernel, rfl, by decide +kernel, by decide +kernel⟩ (fun l k => c_Line__init__.2 l k)
  have gl := glo_at Sy X G (x := "Line") (.inr (by decide +kernel))
  have mk := He.mkr_ok (fact_mem Sy (mem_mkr (p := ("Line", ["pieces"])) (by decide +kernel)))
  rw [mkL_eq (ps := ["pieces"]) (by decide +kernel) (by decide +kernel) (by decide +kernel)]
  exact ⟨mkf_of (dvs := []) (dd := []) gl mk Fo (FunD.bindsN (ps := p_Line__init__) F (fun _ _ _ _ _ _ us hl => match us, hl with | [_, _], _ => by kernel_rfl)) .nil (fun _ _ => rfl),
    mkk_of (dvs := []) (dd := []) gl mk Fo (kbn0 (ps := p_Line__init__) (ks := ["pieces"]) (perm := [0]) F (fun _ _ _ _ _ _ _ ws hl => match ws, hl with | [_], _ => by kernel_rfl)) (fun _ _ => rfl)⟩
theorem mk_Design {k : Nat} (fct : ∀ j, k = j + 1 → ∀ hh r, Fct (semL hh r (lv j)) j PRG w K mg base) : MkF L90 (mkL (lv k).mc "Design") (k + 1) PRG w K mg base (He.ga K "Design") ∧ MkK L90 (mkL (lv k).mc "Design") (k + 1) PRG w K mg base (He.ga K "Design") ["strengths", "cost"] [1, 0] := by
  obtain ⟨fd, F⟩ := Sy.def_ 49 (d := ⟨("Design", some "__init__"), "__init__", "Design.__init__", defArgs (mth 16 0), defBody (mth 16 0), defScope (mth 16 0), [], []⟩) rfl
  have Fo := ok_mt' fct (cn := "Design") (m := "__init__") (e := ⟨n_Design__init__, p_Design__init__, c_Design__init__.1, none⟩) (by kernel_rfl) rfl F ⟨rfl, rfl, rfl, by decide +kernel, rfl, by decide +kernel, by decide +kernel⟩ (fun l k => c_Design__init__.2 l k)
  have gl := glo_at Sy X G (x := "Design") (.inr (by decide +kernel))
  have mk := He.mkr_ok (fact_mem Sy (mem_mkr (p := ("Design", ["cost", "strengths"])) (by decide +kernel)))
  rw [mkL_eq (ps := ["cost", "strengths"]) (by decide +kernel) (by decide +kernel) (by decide +kernel)]
  exact ⟨mkf_of (dvs := []) (dd := []) gl mk Fo (FunD.bindsN (ps := p_Design__init__) F (fun _ _ _ _ _ _ us hl => match us, hl with | [_, _, _], _ => by kernel_rfl)) .nil (fun _ _ => rfl),
    mkk_of (dvs := []) (dd := []) gl mk Fo (kbn0 (ps := p_Design__init__) (ks := ["strengths", "cost"]) (perm := [1, 0]) F (fun _ _ _ _ _ _ _ ws hl => match ws, hl with | [_, _], _ => by kernel_rfl)) (fun _ _ => rfl)⟩
theorem mk_Model {k : Nat} (fct : ∀ j, k = j + 1 → ∀ hh r, Fct (semL hh r (lv j)) j PRG w K mg base) : MkF L90 (mkL (lv k).mc "Model") (k + 1) PRG w K mg base (He.ga K "Model") ∧ MkK L90 (mkL (lv k).mc "Model") (k + 1) PRG w K mg base (He.ga K "Model") ["asks", "loads", "marks", "beams", "joints"] [4, 3, 2, 1, 0] := by
  obtain ⟨fd, F⟩ := Sy.def_ 52 (d := ⟨("Model", some "__init__"), "__init__", "Model.__init__", defArgs (mth 18 0), defBody (mth 18 0), defScope (mth 18 0), [.adr (He.dflAt ("Model", some "__init__") 0)], []⟩) rfl
  have Fo := ok_mt' fct (cn := "Model") (m := "__init__") (e := ⟨n_Model__init__, p_Model__init__, c_Model__init__.1, none⟩) (by kernel_rfl) rfl F ⟨rfl, rfl, rfl, by decide +kernel, rfl, by decide +kernel, by decide +kernel⟩ (fun l k => c_Model__init__.2 l k)
  have gl := glo_at Sy X G (x := "Model") (.inr (by decide +kernel))
  have mk := He.mkr_ok (fact_mem Sy (mem_mkr (p := ("Model", ["joints", "beams", "marks", "loads", "asks", "prices"])) (by decide +kernel)))
  have bF := bindsFull (v := .ref (He.dflAt ("Model", some "__init__") 0 K)) F
  obtain ⟨dus, v1, b1⟩ := model_binds (v := .ref (He.dflAt ("Model", some "__init__") 0 K)) F
  have ev5 : ∀ (ds : List D) (S : Sto), ds.length < 6 → mkL (lv k).mc "Model" ds S = makeC ((lv k).mc "Model" "__init__") "Model" [.tup []] ds S := fun ds S h => by
    unfold mkL
    rw [if_neg (by decide +kernel), show par90.lookup ("Model" : Str) = some (["joints", "beams", "marks", "loads", "asks", "prices"] : List Str) by decide +kernel]
    dsimp only
    rw [if_pos (by exact h), show dfl90 "Model" = [.tup []] by decide +kernel]
  have ev6 : ∀ (ds : List D) (S : Sto), ¬ ds.length < 6 → mkL (lv k).mc "Model" ds S = makeC ((lv k).mc "Model" "__init__") "Model" [] ds S := fun ds S h => by
    unfold mkL
    rw [if_neg (by decide +kernel), show par90.lookup ("Model" : Str) = some (["joints", "beams", "marks", "loads", "asks", "prices"] : List Str) by decide +kernel]
    dsimp only
    rw [if_neg (by exact h)]
  refine ⟨⟨fun {X' pins σ H s Q us vs π S ds d S'} e1 e2 e3 e4 e5 hr I r sr rs ev kk => ?_⟩, ⟨fun {X' pins σ H s Q us vs π S ds d S'} e1 e2 e3 e4 e5 hr I r sr rs hl ev kk => ?_⟩⟩
  · by_cases hz : ds.length < 6
    · rw [ev5 _ _ hz] at ev
      exact (mkf_of (dvs := [.ref (He.dflAt ("Model", some "__init__") 0 K)]) (dd := [.tup []]) gl mk Fo b1 v1 (fun π H => dflt_ok ex)).run e1 e2 e3 e4 e5 hr I r sr rs ev kk
    · rw [ev6 _ _ hz] at ev
      exact (mkf_of (dvs := []) (dd := []) gl mk Fo bF .nil (fun π H => rfl)).run e1 e2 e3 e4 e5 hr I r sr rs ev kk
  · rw [ev5 _ _ (Nat.lt_of_le_of_lt (List.length_filterMap_le _ _) (by decide))] at ev
    obtain ⟨its, kb⟩ := FunD.kbindsD (ps := p_Model__init__) F 1 ["asks", "loads", "marks", "beams", "joints"] (fun us its ws => us ++ ((([4, 3, 2, 1, 0] : List Nat).filterMap fun i => ws[i]?) ++ its)) (fun h => nomatch h) (fun {vs ds zs us its ws} r1 r2 r3 => r1.append ((perm_rel r3).append r2)) (fun T kV doc pm an cdv ct us its ws h1 h2 h3 => match us, its, ws, h1, h2, h3 with | [_], [_], [_, _, _, _, _], _, _, _ => ⟨_, rfl, by kernel_rfl⟩)
    exact (mkk_of (dvs := [.ref (He.dflAt ("Model", some "__init__") 0 K)]) (dd := [.tup []]) gl mk Fo kb (fun π H => dflt_ok ex)).run e1 e2 e3 e4 e5 hr I r sr rs hl ev kk
theorem mk_Paper {k : Nat} (fct : ∀ j, k = j + 1 → ∀ hh r, Fct (semL hh r (lv j)) j PRG w K mg base) : MkF L90 (mkL (lv k).mc "Paper") (k + 1) PRG w K mg base (He.ga K "Paper") ∧ MkK L90 (mkL (lv k).mc "Paper") (k + 1) PRG w K mg base (He.ga K "Paper") ["asked"] [0] := by
  obtain ⟨fd, F⟩ := Sy.def_ 55 (d := ⟨("Paper", some "__init__"), "__init__", "Paper.__init__", defArgs (mth 21 0), defBody (mth 21 0), defScope (mth 21 0), [], []⟩) rfl
  have Fo := ok_mt' fct (cn := "Paper") (m := "__init__") (e := ⟨n_Paper__init__, p_Paper__init__, c_Paper__init__.1, none⟩) (by kernel_rfl) rfl F ⟨rfl, rfl, rfl, by decide +kernel, rfl, by decide +kernel, by decide +kernel⟩ (fun l k => c_Paper__init__.2 l k)
  have gl := glo_at Sy X G (x := "Paper") (.inr (by decide +kernel))
  have mk := He.mkr_ok (fact_mem Sy (mem_mkr (p := ("Paper", ["asked"])) (by decide +kernel)))
  rw [mkL_eq (ps := ["asked"]) (by decide +kernel) (by decide +kernel) (by decide +kernel)]
  exact ⟨mkf_of (dvs := []) (dd := []) gl mk Fo (FunD.bindsN (ps := p_Paper__init__) F (fun _ _ _ _ _ _ us hl => match us, hl with | [_, _], _ => by kernel_rfl)) .nil (fun _ _ => rfl),
    mkk_of (dvs := []) (dd := []) gl mk Fo (kbn0 (ps := p_Paper__init__) (ks := ["asked"]) (perm := [0]) F (fun _ _ _ _ _ _ _ ws hl => match ws, hl with | [_], _ => by kernel_rfl)) (fun _ _ => rfl)⟩
theorem mk_Endless {k : Nat} : MkF L90 (mkL (lv k).mc "Endless") (k + 1) PRG w K mg base (He.ga K "Endless") := by
  have e : mkL (lv k).mc "Endless" = make0C "Endless" := by
    funext ds S
    unfold mkL
    rw [if_pos rfl]
  rw [e]
  obtain ⟨e1, e2⟩ := endless_ok Sy X G ex
  exact mk0_of (glo_at Sy X G (.inr (by decide +kernel))) e1 e2 (by rw [mro_own (cls_ok Sy X G ex (by decide +kernel)).1]; simp)
theorem all_mk {k : Nat} (fct : ∀ j, k = j + 1 → ∀ hh r, Fct (semL hh r (lv j)) j PRG w K mg base) : ∀ c ∈ cls90, MkF L90 (mkL (lv k).mc c) (k + 1) PRG w K mg base (He.ga K c) := by
  unfold cls90
  exact List.forall_mem_cons.mpr ⟨(mk_Stresses Sy X G ex fct).1, List.forall_mem_cons.mpr ⟨(mk_Stills Sy X G ex fct).1, List.forall_mem_cons.mpr ⟨(mk_Carries Sy X G ex fct).1, List.forall_mem_cons.mpr ⟨(mk_Yields Sy X G ex fct).1, List.forall_mem_cons.mpr ⟨(mk_Factor Sy X G ex fct).1, List.forall_mem_cons.mpr ⟨mk_Endless Sy X G ex, List.forall_mem_cons.mpr ⟨(mk_Range Sy X G ex fct).1, List.forall_mem_cons.mpr ⟨(mk_Moves Sy X G ex fct).1, List.forall_mem_cons.mpr ⟨(mk_Gives Sy X G ex fct).1, List.forall_mem_cons.mpr ⟨(mk_Moment Sy X G ex fct).1, List.forall_mem_cons.mpr ⟨(mk_Bends Sy X G ex fct).1, List.forall_mem_cons.mpr ⟨(mk_Loose Sy X G ex fct).1, List.forall_mem_cons.mpr ⟨(mk_Line Sy X G ex fct).1, List.forall_mem_cons.mpr ⟨(mk_Design Sy X G ex fct).1, List.forall_mem_cons.mpr ⟨(mk_Model Sy X G ex fct).1, List.forall_mem_cons.mpr ⟨(mk_Paper Sy X G ex fct).1, List.forall_mem_nil _⟩⟩⟩⟩⟩⟩⟩⟩⟩⟩⟩⟩⟩⟩⟩⟩
theorem all_mkk {k : Nat} (fct : ∀ j, k = j + 1 → ∀ hh r, Fct (semL hh r (lv j)) j PRG w K mg base) : ∀ p ∈ permT, MkK L90 (mkL (lv k).mc p.1.1) (k + 1) PRG w K mg base (He.ga K p.1.1) p.1.2 p.2 := by
  unfold permT
  exact List.forall_mem_cons.mpr ⟨(mk_Stresses Sy X G ex fct).2, List.forall_mem_cons.mpr ⟨(mk_Stills Sy X G ex fct).2, List.forall_mem_cons.mpr ⟨(mk_Carries Sy X G ex fct).2, List.forall_mem_cons.mpr ⟨(mk_Yields Sy X G ex fct).2, List.forall_mem_cons.mpr ⟨(mk_Factor Sy X G ex fct).2, List.forall_mem_cons.mpr ⟨(mk_Range Sy X G ex fct).2, List.forall_mem_cons.mpr ⟨(mk_Moves Sy X G ex fct).2, List.forall_mem_cons.mpr ⟨(mk_Gives Sy X G ex fct).2, List.forall_mem_cons.mpr ⟨(mk_Moment Sy X G ex fct).2, List.forall_mem_cons.mpr ⟨(mk_Bends Sy X G ex fct).2, List.forall_mem_cons.mpr ⟨(mk_Loose Sy X G ex fct).2, List.forall_mem_cons.mpr ⟨(mk_Line Sy X G ex fct).2, List.forall_mem_cons.mpr ⟨(mk_Paper Sy X G ex fct).2, List.forall_mem_cons.mpr ⟨(mk_Design Sy X G ex fct).2, List.forall_mem_cons.mpr ⟨(mk_Model Sy X G ex fct).2, List.forall_mem_nil _⟩⟩⟩⟩⟩⟩⟩⟩⟩⟩⟩⟩⟩⟩⟩
end
/-! ### the facts, level by level -/
section
variable {w : World} {K : PySem.W.Frag} {mg : Str → Option Value} {base h : Heap} {c P : Addr} (Sy : He.SaysD fa90 fn90 K) (X : K.In h) (G : h.Ns mainGlobals mg) (ex : ex90 K = true) (tb : tabAt K "_law_rows" = some (c, P)) (TB : LamX.TabB base mg c P)
include Sy X G
theorem st_gl (x : Str) (d : D) (hx : glob90 x = some d) : ∃ u v, mg x = some u ∧ RelV v u ∧ ∀ π H, Rep L90 K mg π H d v := by
  have hx : (if cls90.contains x = true ∨ x = "_law_model_fields" then some (D.glb x) else none) = some d := hx
  split at hx
  · rename_i hm
    cases hx
    have g := glo_at Sy X G (x := x) (hm.elim (fun z => .inr (List.contains_iff_mem.mp z)) fun z => .inl (by rw [z]; decide +kernel))
    exact ⟨_, .ref (He.ga K x), g, rfl, fun π H => ⟨_, rfl, g⟩⟩
  · cases hx
theorem st_at (cn f : Str) (hf : attr90 cn f = true) (CA : Addr) (hm : mg cn = some (.ref CA)) : Cls K CA ∧ NoAttr K CA f := by
  have hf : ((par90.lookup cn).any fun ps => ps.contains f) = true := hf
  cases e : par90.lookup cn with
  | none => rw [e] at hf; cases hf
  | some ps =>
    rw [e] at hf
    have hf : ps.contains f = true := hf
    have hp := lookup_mem e
    have hc := par_cls _ hp
    rw [cls_eq Sy X G hc hm]
    exact ⟨He.cls_ok (fact_mem Sy (mem_cls hc)), He.noat_ok (fact_mem Sy (mem_noat hp (List.contains_iff_mem.mp hf)))⟩
include ex in
theorem st_cls (cn : Str) (hc : cls90.contains cn = true) (CA : Addr) (hm : mg cn = some (.ref CA)) : ClsF K CA ∧ (∀ n ∈ tyNames, PySem.W.kitOne K (.ref CA) (.type n) = some false ∧ PySem.W.kitOne K (.type n) (.ref CA) = some false ∧ PySem.W.notFirst K CA (.type n) = true) ∧
    ∀ c' CB, cls90.contains c' = true → mg c' = some (.ref CB) → PySem.W.kitOne K (.ref CA) (.ref CB) = some (decide (cn = c')) ∧ PySem.W.notFirst K CA (.ref CB) = true := by
  have hc := List.contains_iff_mem.mp hc
  rw [cls_eq Sy X G hc hm]
  obtain ⟨o1, o2⟩ := cls_ok Sy X G ex hc
  obtain ⟨f1, f2⟩ := cls_facts o1
  refine ⟨⟨He.cls_ok (fact_mem Sy (mem_cls hc)), o2, by kernel_rfl, by kernel_rfl, by rw [mro_own o1]; simp⟩, f1, fun c' CB hc' hm' => ?_⟩
  have hc' := List.contains_iff_mem.mp hc'
  rw [cls_eq Sy X G hc' hm']
  obtain ⟨g1, g2⟩ := f2 _ (cls_ok Sy X G ex hc').1
  refine ⟨?_, g2⟩
  rw [g1]
  by_cases q : cn = c'
  · subst q; simp
  · rw [decide_eq_false q, decide_eq_false (cls_ne Sy X G ex hc hc' q)]
include ex tb TB
theorem fct_two : ∀ k, (∀ hh r, Fct (semL hh r (lv k)) k PRG w K mg base) ∧ ∀ j, k = j + 1 → ∀ hh r, Fct (semL hh r (lv j)) j PRG w K mg base := by
  intro k
  induction k with
  | zero =>
    refine ⟨fun hh r => ?_, fun j hj => by cases hj⟩
    exact ⟨fun f ds S d S' h => (by cases h), fun c ds S d S' h => (by cases h), fun c ks perm ds S d S' _ h => (by cases h), fun c m ds S d S' _ h => (by cases h), fun i ds S d S' h => (by cases h), fun x hx => He.free_ok X G (fact_mem Sy (mem_free (List.contains_iff_mem.mp hx))), fun z => (by cases z), st_gl Sy X G, st_at Sy X G, st_cls Sy X G ex⟩
  | succ k ih2 =>
    obtain ⟨ih, fct⟩ := ih2
    refine ⟨fun hh r => ?_, fun j hj => by cases hj; exact ih⟩
    refine ⟨fun f ds S d S' hf => ?_, fun cn ds S d S' hf => ?_, fun cn ks perm ds S d S' hp hf => ?_, fun cn m ds S d S' hm hf CA hC => ?_, fun i ds S d S' hf => ?_, fun x hx => He.free_ok X G (fact_mem Sy (mem_free (List.contains_iff_mem.mp hx))), fun z => (by cases z), st_gl Sy X G, st_at Sy X G, st_cls Sy X G ex⟩
    · have hf : (lv (k + 1)).cl f ds S = .ok d S' := hf
      cases e : fnT.lookup f with
      | none =>
        have q : (lv (k + 1)).cl f = fun _ _ => .bad := by
          show (match fnT.lookup f with | some e => callC (semL e.here false (lv k)) e.N.length e.ps.length e.code | none => fun _ _ => .bad) = _
          rw [e]
        rw [q] at hf
        cases hf
      | some e => exact ok_fn Sy X G tb TB ih (by assumption)
    · have hf : mkL (lv k).mc cn ds S = .ok d S' := hf
      have hc : cn ∈ cls90 := by
        unfold mkL at hf
        split at hf
        · rename_i q; rw [q]; decide +kernel
        · split at hf
          · rename_i ps hp
            exact par_cls _ (lookup_mem hp)
          · cases hf
      exact ⟨_, glo_at Sy X G (.inr hc), He.keep_ok (fact_mem Sy (mem_keep hc)), all_mk Sy X G ex fct cn hc⟩
    · have hp : permT.lookup (cn, ks) = some perm := hp
      have hm := lookup_mem hp
      obtain ⟨hc, _, _⟩ := perm_ok _ hm
      exact ⟨_, glo_at Sy X G (.inr hc), He.keep_ok (fact_mem Sy (mem_keep hc)), all_mkk Sy X G ex fct _ hm⟩
    · have hf : (lv (k + 1)).mc cn m ds S = .ok d S' := hf
      cases e : mtT.lookup (cn, m) with
      | none =>
        have q : (lv (k + 1)).mc cn m = fun _ _ => .bad := by
          show (match mtT.lookup (cn, m) with | some e => callC (semL e.here false (lv k)) e.N.length e.ps.length e.code | none => fun _ _ => .bad) = _
          rw [e]
        rw [q] at hf
        cases hf
      | some e =>
        obtain ⟨hc, _, fd, qual, params, body, scope, dvs, ps, F, B, Fo⟩ := ok_mt Sy X G (k := k + 1) (w := w) (mg := mg) (base := base) (fun j hj => by cases hj; exact ih) (by assumption)
        rw [cls_eq Sy X G hc hC]
        have mt : Meth K (He.ga K cn) m (He.ma K (He.ga K cn) m) := by
          rcases hm with rfl | rfl
          · exact He.meth_ok (fact_mem Sy (mem_eq hc))
          · exact He.meth_ok (fact_mem Sy (mem_ne hc))
        exact ⟨_, fd, ps, mt.at_, mt.fn, B, Fo⟩
    · have hf : (lv (k + 1)).lm i ds S = .ok d S' := hf
      cases e : lmT[i]? with
      | none =>
        have q : (lv (k + 1)).lm i = fun _ _ => .bad := by
          show (match lmT[i]? with | some e => lamC (semL none false (lv k)) 1 1 e | none => fun _ _ => .bad) = _
          rw [e]
        rw [q] at hf
        cases hf
      | some e' =>
        have q : (lv (k + 1)).lm i = lamC (semL none false (lv k)) 1 1 e' := by
          show (match lmT[i]? with | some e => lamC (semL none false (lv k)) 1 1 e | none => fun _ _ => .bad) = _
          rw [e]
        obtain ⟨qn, p, b, scope, h1, h2, h3, h4⟩ := all_lm i e' e
        show LmF L90 ((lv (k + 1)).lm i) (k + 1) PRG w K mg base i
        rw [q]
        exact lmf_of (M := semL none false (lv k)) h1 h2 (h3 (lv k) k) (ih none false) rfl rfl h4
theorem fct_all (k : Nat) (hh : Option Str) (r : Bool) : Fct (semL hh r (lv k)) k PRG w K mg base := (fct_two Sy X G ex tb TB k).1 hh r
end
end K90

namespace K90
open PySem PySem.Spec PyProof.Rows L2 PV
/-! ### the end -/
theorem facts (w : World) (mg : Str → Option Value) (K : PySem.W.Frag) (s₁ : Shared) (a c T : Addr) (vs : List Value) (ns : List Int) (Sy : SaysP fa90 fn90 ex90 ["_law_rows"] K s₁.heap) (G : s₁.heap.Ns mainGlobals mg) (tb : tabAt K "_law_rows" = some (c, T))
    (pl : ∃ S' : Sto, runC (semL none true (lv 8)) n_law.length c_law.1 [.loc 0] [.frz (ns.map D.int)] = .ok (.bl true) S') :
    ∀ (base : Heap) (H : Hp), K.In base → base.Ns mainGlobals mg → LamX.TabB base mg c T → T ≠ a → Env0 PRG w K mg base callerA [] s₁ H → H T = some (.tbl #[]) → H a = some (.frz { cls := .type "list", data := .seq vs.toArray } (.lst (ns.map V.int))) →
      codeAny (model PRG w) callerA (.call (.ref (He.ga K "law")) ⟨[.ref a], []⟩) (CR CX0 [] PRG w H s₁ (fun v _ => v = .bl true) E0) s₁ := by
  intro base H Kb Gb TB ne e0 hT hA
  obtain ⟨S', ev⟩ := pl
  obtain ⟨fd, F⟩ := Sy.d.def_ 10 (d := ⟨("law", none), "law", "law", defArgs (top 31), defBody (top 31), defScope (top 31), [], []⟩) rfl
  have b := FunD.bindsA (ps := ["script"]) F fun _ _ _ _ _ _ us hl => match us, hl with | [_], _ => by kernel_rfl
  have tt := (tabs_at Sy.d Sy.kin G tb).1
  have ht : ∀ p ∈ tabs L90 K mg, p.1 = T := fun p hp => by
    rw [tt] at hp
    have e : p = (T, ("_law_rows" : Str) ++ ".<locals>." ++ "<lambda>") := by simpa using hp
    rw [e]
  refine run_code (M := semL none true (lv 8)) (k := 8) (N := n_law) (ps := ["script"]) (us := [.ref a]) (vs := [.ref a]) F ⟨rfl, rfl, rfl, by decide +kernel, rfl, by decide +kernel, by decide +kernel⟩ (c_law.2 (lv 8) 8) (fct_all Sy.d Sy.kin G Sy.ex tb TB 8 none true) (fun _ => rfl) (fun g hg => by cases hg) ⟨rfl, by decide, by decide⟩ e0 (b s₁ [.ref a] rfl) (.cons rfl .nil)
    (π := [a]) (ds := [.loc 0]) (srel_start (T := T) hA hT ht) ⟨_, _, rfl, ⟨a, rfl, rfl⟩, rfl⟩ rfl ev fun v π' H' _ _ q => q
theorem walk {d : DefRec} (hdn : d.name = "law") (hdf : d.params.defaults = []) {loose : List Str} {q : Program} {XP : (Str → Option Value) → Heap → Prop} (hn : LW.most = some 63)
    (pl : ∀ ns : List Int, ns.length ≤ 63 → ∃ S' : Sto, runC (semL none true (lv 8)) n_law.length c_law.1 [.loc 0] [.frz (ns.map D.int)] = .ok (.bl true) S') : PySem.W.WalkO q loose XP hk.says LW.row.toRowW d [] (fun f vs => PySem.call f vs) := by
  refine Att.attach_callB hn hdf fun w s₀ s₁ mg mb fa o pm cd doc a vs ns G Y ho hd hcd hmg hobj hints hlen hbits hg => ?_
  obtain ⟨K, Sy⟩ := Y
  obtain ⟨c, T, tb, hT, hC⟩ := Sy.tb "_law_rows" (by simp)
  have gl : mg "law" = some (.ref (He.ga K "law")) := glo_at Sy.d Sy.kin G.T.g (.inl (by decide +kernel))
  rw [hdn] at hmg
  rw [gl] at hmg
  cases hmg
  exact law_end Sy.kin Sy.plain G.T.g G.T.b G.T.builtins G.T.nolimit hg hT hC G.T.bmain hobj hints (Nat.le_trans hlen (by decide)) (facts w mg K s₁ a c T vs ns Sy G.T.g tb (pl ns hlen))
end K90

namespace K90
open PySem PySem.Spec PyProof.Rows L2 PV
/-! ### the plain law -/
/-- what copied gives -/
def cpD (S : Sto) (v : D) : D := match listOf S v with
  | some ds => .tup ds
  | none => v
/-- a value whose type is a built-in one -/
def Bt (S : Sto) (v : D) : Prop := ∃ t, tyD S v = some (.inl t) ∧ t ∈ tyNames ∧ ((t == "list") = (listOf S v).isSome)
theorem isi_list {S : Sto} {v : D} (h : Bt S v) (cls : Str → Bool) : isiP cls [v, .ty "list"] S = .ok (.bl (listOf S v).isSome) S := by
  obtain ⟨t, h1, h2, h3⟩ := h
  unfold isiP
  dsimp only
  rw [h1]
  dsimp only
  unfold isa
  dsimp only
  rw [if_pos (by decide)]
  dsimp only
  rw [h3]
  congr 1
  simp
theorem lv_cl (k : Nat) (f : Str) {e : Ent} (h : fnT.lookup f = some e) : (lv (k + 1)).cl f = callC (semL e.here false (lv k)) e.N.length e.ps.length e.code := by
  show (match fnT.lookup f with | some e => callC (semL e.here false (lv k)) e.N.length e.ps.length e.code | none => fun _ _ => .bad) = _
  rw [h]
theorem lv_mc (k : Nat) (c m : Str) {e : Ent} (h : mtT.lookup (c, m) = some e) : (lv (k + 1)).mc c m = callC (semL e.here false (lv k)) e.N.length e.ps.length e.code := by
  show (match mtT.lookup (c, m) with | some e => callC (semL e.here false (lv k)) e.N.length e.ps.length e.code | none => fun _ _ => .bad) = _
  rw [h]
theorem seq_list {S : Sto} {v : D} {ds : List D} (h : listOf S v = some ds) : seqOf S v = some ds := by
  cases v with
  | loc n => exact h
  | _ => cases h
theorem copied_spec (k : Nat) {S : Sto} {v : D} (h : Bt S v) : (lv (k + 1)).cl "copied" [v] S = .ok (cpD S v) S := by
  rw [lv_cl k "copied" (e := ⟨n_copied, p_copied, c_copied.1, none⟩) (by kernel_rfl)]
  unfold callC runC c_copied
  simp [n_copied, p_copied, startD, exCs, exC, evE, evEs, primD, isi_list h]
  cases e : listOf S v with
  | none => simp [cpD, e]
  | some ds => simp [cpD, e, tupleP, seq_list e]
theorem law_copy_spec (k : Nat) {S : Sto} {v : D} (h : Bt S v) : (lv (k + 1)).cl "_law_copy" [v] S = .ok (cpD S v) S := by
  rw [lv_cl k "_law_copy" (e := ⟨n__law_copy, p__law_copy, c__law_copy.1, none⟩) (by kernel_rfl)]
  unfold callC runC c__law_copy
  simp [n__law_copy, p__law_copy, startD, exCs, exC, evE, evEs, primD, isi_list h]
  cases e : listOf S v with
  | none => simp [cpD, e]
  | some ds => simp [cpD, e, tupleP, seq_list e]
/-! ### the pen -/
structure Pen where
  at_ : Int
  dg : Int
  ct : Int
  fo : Int
structure Pen.Ok (p : Pen) (n : Nat) : Prop where
  a : 0 ≤ p.at_
  d : 0 ≤ p.dg
  c0 : 0 ≤ p.ct
  c1 : p.ct ≤ n
  f0 : 0 ≤ p.fo
  f1 : p.fo < 2147483648
def penO (c : Nat) (p : Pen) : O := .dct [(.inr "cells", .loc c), (.inr "at", .int p.at_), (.inr "digits", .int p.dg), (.inr "count", .int p.ct), (.inr "fold", .int p.fo)]
theorem pen_cells (c : Nat) (p : Pen) : valD [(.inr "cells", .loc c), (.inr "at", .int p.at_), (.inr "digits", .int p.dg), (.inr "count", .int p.ct), (.inr "fold", .int p.fo)] (.inr "cells") = some (.loc c) := by kernel_rfl
theorem pen_at (c : Nat) (p : Pen) : valD [(.inr "cells", .loc c), (.inr "at", .int p.at_), (.inr "digits", .int p.dg), (.inr "count", .int p.ct), (.inr "fold", .int p.fo)] (.inr "at") = some (.int p.at_) := by kernel_rfl
theorem pen_dg (c : Nat) (p : Pen) : valD [(.inr "cells", .loc c), (.inr "at", .int p.at_), (.inr "digits", .int p.dg), (.inr "count", .int p.ct), (.inr "fold", .int p.fo)] (.inr "digits") = some (.int p.dg) := by kernel_rfl
theorem pen_ct (c : Nat) (p : Pen) : valD [(.inr "cells", .loc c), (.inr "at", .int p.at_), (.inr "digits", .int p.dg), (.inr "count", .int p.ct), (.inr "fold", .int p.fo)] (.inr "count") = some (.int p.ct) := by kernel_rfl
theorem pen_fo (c : Nat) (p : Pen) : valD [(.inr "cells", .loc c), (.inr "at", .int p.at_), (.inr "digits", .int p.dg), (.inr "count", .int p.ct), (.inr "fold", .int p.fo)] (.inr "fold") = some (.int p.fo) := by kernel_rfl
theorem put_at (c : Nat) (p : Pen) (x : Int) : putD [(.inr "cells", .loc c), (.inr "at", .int p.at_), (.inr "digits", .int p.dg), (.inr "count", .int p.ct), (.inr "fold", .int p.fo)] (.inr "at") (.int x) = [(.inr "cells", .loc c), (.inr "at", .int x), (.inr "digits", .int p.dg), (.inr "count", .int p.ct), (.inr "fold", .int p.fo)] := by kernel_rfl
theorem put_dg (c : Nat) (p : Pen) (x : Int) : putD [(.inr "cells", .loc c), (.inr "at", .int p.at_), (.inr "digits", .int p.dg), (.inr "count", .int p.ct), (.inr "fold", .int p.fo)] (.inr "digits") (.int x) = [(.inr "cells", .loc c), (.inr "at", .int p.at_), (.inr "digits", .int x), (.inr "count", .int p.ct), (.inr "fold", .int p.fo)] := by kernel_rfl
theorem put_ct (c : Nat) (p : Pen) (x : Int) : putD [(.inr "cells", .loc c), (.inr "at", .int p.at_), (.inr "digits", .int p.dg), (.inr "count", .int p.ct), (.inr "fold", .int p.fo)] (.inr "count") (.int x) = [(.inr "cells", .loc c), (.inr "at", .int p.at_), (.inr "digits", .int p.dg), (.inr "count", .int x), (.inr "fold", .int p.fo)] := by kernel_rfl
theorem put_fo (c : Nat) (p : Pen) (x : Int) : putD [(.inr "cells", .loc c), (.inr "at", .int p.at_), (.inr "digits", .int p.dg), (.inr "count", .int p.ct), (.inr "fold", .int p.fo)] (.inr "fold") (.int x) = [(.inr "cells", .loc c), (.inr "at", .int p.at_), (.inr "digits", .int p.dg), (.inr "count", .int p.ct), (.inr "fold", .int x)] := by kernel_rfl
theorem idx_dct {S : Sto} {p : Nat} {kvs : List (Key × D)} {x : Str} {v : D} (h : S[p]? = some (.dct kvs)) (hv : valD kvs (.inr x) = some v) : idxD (.loc p) (.str x) S = .ok v S := by
  unfold idxD
  dsimp only
  rw [h]
  dsimp only
  show (match valD kvs (.inr x) with | some v => Res.ok v S | none => .bad) = _
  rw [hv]
theorem idx_lst {S : Sto} {p : Nat} {ds : List D} {i : Int} {v : D} (h : S[p]? = some (.lst ds)) (hv : atI ds i = some v) : idxD (.loc p) (.int i) S = .ok v S := by
  unfold idxD
  dsimp only
  rw [h]
  dsimp only
  rw [hv]
theorem atI_ok {α : Type} {xs : List α} {i : Int} (h0 : 0 ≤ i) (h1 : i < xs.length) : ∃ v, atI xs i = some v ∧ xs[i.toNat]? = some v := by
  have hl : i.toNat < xs.length := by omega
  refine ⟨xs[i.toNat], ?_, List.getElem?_eq_getElem hl⟩
  have := atI_nat (xs := xs) (j := i.toNat) (List.getElem?_eq_getElem hl)
  rwa [show ((i.toNat : Nat) : Int) = i by omega] at this
theorem set_at {S : Sto} {p : Nat} {o o' : O} (h : S[p]? = some o) : (S.set p o')[p]? = some o' := by
  rw [List.getElem?_set_self (List.getElem?_eq_some_iff.mp h).1]
/-! what the operators say of ints -/
section
variable {a b : Int} {S : Sto} {call : Str → Str → List D → Sto → Res D} {cls : Str → Bool}
theorem b_add : binD .Add (.int a) (.int b) S = .ok (.int (a + b)) S := rfl
theorem b_sub : binD .Sub (.int a) (.int b) S = .ok (.int (a - b)) S := rfl
theorem b_mul (h : mulOk a b) : binD .Mult (.int a) (.int b) S = .ok (.int (a * b)) S := if_pos h
theorem b_mod (h : b ≠ 0) : binD .Mod (.int a) (.int b) S = .ok (.int (a.fmod b)) S := if_pos h
theorem b_div (h : divOk b) : binD .FloorDiv (.int a) (.int b) S = .ok (.int (a.fdiv b)) S := if_pos h
theorem b_pow (h : powOk a b) : binD .Pow (.int a) (.int b) S = .ok (.int (a ^ b.toNat)) S := if_pos h
theorem c_eq : cmpD call cls .Eq (.int a) (.int b) S = .ok (.bl (a == b)) S := by
  show (match eqD S (.int a) (.int b) with | some b => Res.ok (D.bl b) S | none => .bad) = _
  have : eqD S (.int a) (.int b) = some (a == b) := by
    show (if SeqAt.shaped (.int a) = true ∧ SeqAt.shaped (.int b) = true then some (PyData.eqv (.int a) (.int b)) else none) = _
    rw [if_pos ⟨rfl, rfl⟩]
    congr 1
  rw [this]
theorem c_lt : cmpD call cls .Lt (.int a) (.int b) S = .ok (.bl (decide (a < b))) S := rfl
theorem c_gt : cmpD call cls .Gt (.int a) (.int b) S = .ok (.bl (decide (b < a))) S := rfl
theorem c_ge : cmpD call cls .GtE (.int a) (.int b) S = .ok (.bl (decide (b ≤ a))) S := rfl
theorem p_int {gc rp : Bool} : primD cls gc rp .int [.int a] S = .ok (.int a) S := rfl
theorem p_len {gc rp : Bool} {x : D} {ds : List D} (h : seqOf S x = some ds) : primD cls gc rp .len [x] S = .ok (.int ds.length) S := by
  show lenP [x] S = _
  unfold lenP
  dsimp only
  rw [h]
end
theorem asT_dct {M : Sem} {σ : En} {S : Sto} {o i : E} {v : D} {x : Str} {kvs : List (Key × D)} {p : Nat} (ho : evE M o σ S = .ok (.loc p) S) (hi : evE M i σ S = .ok (.str x) S) (hp : S[p]? = some (.dct kvs)) (hl : kvs.length < 1000) : asT M (.sub o i) v σ S = .ok σ (S.set p (.dct (putD kvs (.inr x) v))) := by
  unfold asT
  rw [ho, Res.bind_ok, hi, Res.bind_ok]
  dsimp only
  rw [hp]
  dsimp only
  show (if kvs.length < 1000 then _ else _) = _
  rw [if_pos hl]
/-- the pen at p -/
structure PenAt (S : Sto) (p c : Nat) (cells : List Int) (q : Pen) : Prop where
  hp : S[p]? = some (penO c q)
  hc : S[c]? = some (.lst (cells.map D.int))
  ne : c ≠ p
section
variable {S : Sto} {p c : Nat} {cells : List Int} {q : Pen} (h : PenAt S p c cells q)
include h
theorem PenAt.cs : idxD (.loc p) (.str "cells") S = .ok (.loc c) S := idx_dct h.hp (pen_cells c q)
theorem PenAt.at_ : idxD (.loc p) (.str "at") S = .ok (.int q.at_) S := idx_dct h.hp (pen_at c q)
theorem PenAt.dg : idxD (.loc p) (.str "digits") S = .ok (.int q.dg) S := idx_dct h.hp (pen_dg c q)
theorem PenAt.ct : idxD (.loc p) (.str "count") S = .ok (.int q.ct) S := idx_dct h.hp (pen_ct c q)
theorem PenAt.fo : idxD (.loc p) (.str "fold") S = .ok (.int q.fo) S := idx_dct h.hp (pen_fo c q)
theorem PenAt.put (q' : Pen) : PenAt (S.set p (penO c q')) p c cells q' := ⟨set_at h.hp, by rw [List.getElem?_set_ne (Ne.symm h.ne)]; exact h.hc, h.ne⟩
variable {M : Sem} {σ : En} (hσ : σ[0]? = some (some (.loc p)))
include hσ
theorem PenAt.putCt (x : Int) : asT M (.sub (.var 0) (.lit (.str "count"))) (.int x) σ S = .ok σ (S.set p (penO c { q with ct := x })) := by
  rw [asT_dct (p := p) (x := "count") (by rw [evE, hσ]) (by rw [evE]) h.hp (show (5 : Nat) < 1000 by decide), put_ct]
  rfl
theorem PenAt.putAt (x : Int) : asT M (.sub (.var 0) (.lit (.str "at"))) (.int x) σ S = .ok σ (S.set p (penO c { q with at_ := x })) := by
  rw [asT_dct (p := p) (x := "at") (by rw [evE, hσ]) (by rw [evE]) h.hp (show (5 : Nat) < 1000 by decide), put_at]
  rfl
theorem PenAt.putDg (x : Int) : asT M (.sub (.var 0) (.lit (.str "digits"))) (.int x) σ S = .ok σ (S.set p (penO c { q with dg := x })) := by
  rw [asT_dct (p := p) (x := "digits") (by rw [evE, hσ]) (by rw [evE]) h.hp (show (5 : Nat) < 1000 by decide), put_dg]
  rfl
theorem PenAt.putFo (x : Int) : asT M (.sub (.var 0) (.lit (.str "fold"))) (.int x) σ S = .ok σ (S.set p (penO c { q with fo := x })) := by
  rw [asT_dct (p := p) (x := "fold") (by rw [evE, hσ]) (by rw [evE]) h.hp (show (5 : Nat) < 1000 by decide), put_fo]
  rfl
end
theorem mul_ok {a b : Int} (ha : a.natAbs < 2 ^ 64) (hb : b.natAbs < 2 ^ 64) : mulOk a b := by
  unfold mulOk
  have h1 : a.natAbs.log2 ≤ 64 := by
    by_cases z : a.natAbs = 0
    · rw [z]; decide
    · exact Nat.le_of_lt ((Nat.log2_lt z).mpr ha)
  have h2 : b.natAbs.log2 ≤ 64 := by
    by_cases z : b.natAbs = 0
    · rw [z]; decide
    · exact Nat.le_of_lt ((Nat.log2_lt z).mpr hb)
  omega
theorem div_ok {b : Int} (h : 1 ≤ b) (hb : b ≤ 1000) : divOk b := by
  refine ⟨by omega, ?_⟩
  have : b.natAbs.log2 < 64 := (Nat.log2_lt (by omega)).mpr (by omega)
  omega
theorem seq_at {S : Sto} {n : Nat} {ds : List D} (h : S[n]? = some (.lst ds)) : seqOf S (.loc n) = some ds := by
  show PV.listOf S (.loc n) = some ds
  unfold PV.listOf
  dsimp only
  rw [h]
theorem p1018 : powOk 10 18 := by decide +kernel
/-- the next cell is read, or nothing is -/
theorem draw_mid (M : Sem) {S : Sto} {p c : Nat} {q : Pen} {cells : List Int} {many : Int} {n : Nat} (h : PenAt S p c cells q) (ok : q.Ok n) :
    ∃ x q', exC M 0 (C.iff
            ((E.cmp CmpOp.Eq ((E.var 0).idx (E.lit (D.str "digits"))) (E.lit (D.int 0))).and
              (E.cmp CmpOp.Lt ((E.var 0).idx (E.lit (D.str "at")))
                (E.prim Prim.len (Es.cons ((E.var 0).idx (E.lit (D.str "cells"))) Es.nil))))
            (Cs.cons
              (C.asg (T.var 2)
                (((E.var 0).idx (E.lit (D.str "cells"))).idx
                  ((E.var 0).idx (E.lit (D.str "at")))))
              (Cs.cons
                (C.asg (T.sub (E.var 0) (E.lit (D.str "at")))
                  (E.bin Operator.Add ((E.var 0).idx (E.lit (D.str "at"))) (E.lit (D.int 1))))
                (Cs.cons
                  (C.iff (E.cmp CmpOp.GtE (E.var 2) (E.bin Operator.Pow (E.lit (D.int 10)) (E.lit (D.int 18))))
                    (Cs.cons
                      (C.asg (T.sub (E.var 0) (E.lit (D.str "digits")))
                        (E.bin Operator.Sub (E.var 2) (E.bin Operator.Pow (E.lit (D.int 10)) (E.lit (D.int 18)))))
                      Cs.nil)
                    (Cs.cons
                      (C.asg (T.sub (E.var 0) (E.lit (D.str "fold")))
                        (E.bin Operator.Mod
                          (E.prim Prim.int
                            (Es.cons
                              (E.bin Operator.Add
                                (E.bin Operator.Mult ((E.var 0).idx (E.lit (D.str "fold")))
                                  (E.lit (D.int 28001)))
                                (E.var 2))
                              Es.nil))
                          (E.lit (D.int 2147482943))))
                      Cs.nil))
                  Cs.nil)))
            Cs.nil) [some (.loc p), some (.int many), none, none, none] S = .ok (.nx [some (.loc p), some (.int many), x, none, none]) (S.set p (penO c q')) ∧ q'.Ok n := by
  have hq := fun q' => h.put q'
  have hself : S = S.set p (penO c q) := by
    obtain ⟨hl, e⟩ := List.getElem?_eq_some_iff.mp h.hp
    rw [← e, List.set_getElem_self]
  rw [exC]
  simp only [evE, List.getElem?_cons_zero, Res.bind_ok, h.dg, c_eq, h.at_, h.cs, evEs, p_len (seq_at h.hc), c_lt]
  by_cases hz : q.dg = 0 ∧ q.at_ < ((cells.map D.int).length : Int)
  · have e1 : (q.dg == 0) = true := by simpa using hz.1
    rw [e1]
    simp only [Res.bind_ok]
    rw [show decide (q.at_ < ((cells.map D.int).length : Int)) = true from decide_eq_true hz.2]
    obtain ⟨v, hv, hv2⟩ := atI_ok ok.a hz.2
    obtain ⟨z, rfl⟩ : ∃ z, v = .int z := by
      rw [List.getElem?_map] at hv2
      cases e : cells[q.at_.toNat]? with
      | none => rw [e] at hv2; cases hv2
      | some z => rw [e] at hv2; exact ⟨z, (Option.some.inj hv2).symm⟩
    simp only [Res.bind_ok]
    rw [exCs, exC]
    simp only [evE, List.getElem?_cons_zero, Res.bind_ok, h.cs, h.at_, idx_lst h.hc hv]
    rw [asT]
    simp only [List.length_cons, List.length_nil, List.set_cons_succ, List.set_cons_zero, show (2 < 0 + 1 + 1 + 1 + 1 + 1) = True by simp, if_true, Res.bind_ok]
    rw [exCs, exC]
    simp only [evE, List.getElem?_cons_zero, Res.bind_ok, h.at_, b_add, h.putAt (σ := [some (.loc p), some (.int many), some (.int z), none, none]) rfl]
    rw [exCs, exC]
    simp only [evE, List.getElem?_cons_succ, List.getElem?_cons_zero, Res.bind_ok, b_pow p1018, c_ge]
    by_cases hz2 : (10 : Int) ^ (18 : Int).toNat ≤ z
    · rw [decide_eq_true hz2]
      simp only []
      rw [exCs, exC]
      simp only [evE, List.getElem?_cons_succ, List.getElem?_cons_zero, Res.bind_ok, b_pow p1018, b_sub, (hq { q with at_ := q.at_ + 1 }).putDg (σ := [some (.loc p), some (.int many), some (.int z), none, none]) rfl, exCs, List.set_set]
      exact ⟨_, _, rfl, ⟨by have := ok.a; show 0 ≤ q.at_ + 1; omega, by show 0 ≤ z - (10 : Int) ^ (18 : Int).toNat; omega, ok.c0, ok.c1, ok.f0, ok.f1⟩⟩
    · rw [decide_eq_false hz2]
      simp only []
      rw [exCs, exC]
      have hm : mulOk q.fo 28001 := mul_ok (by have := ok.f0; have := ok.f1; omega) (by decide)
      simp only [evE, evEs, List.getElem?_cons_succ, List.getElem?_cons_zero, Res.bind_ok, (hq { q with at_ := q.at_ + 1 }).fo, b_mul hm, b_add, p_int, b_mod (show (2147482943 : Int) ≠ 0 by decide), (hq { q with at_ := q.at_ + 1 }).putFo (σ := [some (.loc p), some (.int many), some (.int z), none, none]) rfl, exCs, List.set_set]
      refine ⟨_, _, rfl, ⟨by have := ok.a; show 0 ≤ q.at_ + 1; omega, ok.d, ok.c0, ok.c1, ?_, ?_⟩⟩
      · exact Int.fmod_nonneg_of_pos _ (by decide)
      · exact Int.lt_trans (Int.fmod_lt_of_pos _ (by decide)) (by decide)
  · refine ⟨none, q, ?_, ok⟩
    rw [← hself]
    cases e1 : (q.dg == 0) with
    | false => simp only [Res.bind_ok, exCs]
    | true =>
      simp only [Res.bind_ok]
      rw [show decide (q.at_ < ((cells.map D.int).length : Int)) = false from decide_eq_false fun z => hz ⟨by simpa using e1, z⟩]
      simp only [exCs]
theorem draw_at (k : Nat) {S : Sto} {p c : Nat} {q : Pen} {cells : List Int} {many : Int} {n : Nat} (h : PenAt S p c cells q) (ok : q.Ok n) (hn : n < 1000) (hm : 1 ≤ many) (hm2 : many ≤ 1000) :
    ∃ r q', (lv (k + 1)).cl "_law_draw" [.loc p, .int many] S = .ok (.int r) (S.set p (penO c q')) ∧ 0 ≤ r ∧ r < many ∧ q'.Ok (n + 1) := by
  rw [lv_cl k "_law_draw" (e := ⟨n__law_draw, p__law_draw, c__law_draw.1, none⟩) (by kernel_rfl)]
  have ok1 : Pen.Ok { q with ct := q.ct + 1 } (n + 1) := ⟨ok.a, ok.d, by have := ok.c0; show 0 ≤ q.ct + 1; omega, by have := ok.c1; show q.ct + 1 ≤ ((n + 1 : Nat) : Int); omega, ok.f0, ok.f1⟩
  have h1 := h.put { q with ct := q.ct + 1 }
  unfold callC runC c__law_draw
  rw [if_pos (by rfl)]
  simp only [show startD n__law_draw.length [D.loc p, D.int many] = [some (.loc p), some (.int many), none, none, none] from rfl]
  rw [exCs, exC]
  simp only [evE, List.getElem?_cons_zero, Res.bind_ok, h.ct, b_add, h.putCt (σ := [some (.loc p), some (.int many), none, none, none]) rfl]
  obtain ⟨x, q2, e2, ok2⟩ := draw_mid (semL none false (lv k)) (many := many) h1 ok1
  rw [exCs]
  rw [e2]
  simp only [Res.bind_ok, List.set_set]
  have h2 := h.put q2
  rw [exCs, exC]
  simp only [evE, List.getElem?_cons_zero, Res.bind_ok, h2.dg, c_gt]
  have hne : many ≠ 0 := by omega
  by_cases hz : 0 < q2.dg
  · rw [decide_eq_true hz]
    simp only []
    rw [exCs, exC]
    simp only [evE, evEs, List.getElem?_cons_succ, List.getElem?_cons_zero, Res.bind_ok, h2.dg, p_int, b_mod hne]
    rw [asT]
    simp only [List.length_cons, List.length_nil, List.set_cons_succ, List.set_cons_zero, show (3 < 0 + 1 + 1 + 1 + 1 + 1) = True by simp, if_true, Res.bind_ok]
    rw [exCs, exC]
    simp only [evE, evEs, List.getElem?_cons_succ, List.getElem?_cons_zero, Res.bind_ok, h2.dg, b_div (div_ok hm hm2), h2.putDg (σ := [some (.loc p), some (.int many), x, some (.int (q2.dg.fmod many)), none]) rfl, List.set_set]
    rw [exCs, exC]
    simp only [evE, List.getElem?_cons_succ, List.getElem?_cons_zero, Res.bind_ok]
    refine ⟨_, _, rfl, Int.fmod_nonneg_of_pos _ (by omega), Int.fmod_lt_of_pos _ (by omega), ok2.a, ?_, ok2.c0, ok2.c1, ok2.f0, ok2.f1⟩
    show 0 ≤ q2.dg.fdiv many
    exact Int.fdiv_nonneg ok2.d (by omega)
  · rw [decide_eq_false hz]
    simp only [exCs, Res.bind_ok]
    rw [exC]
    have m1 : mulOk q2.ct 6007 := mul_ok (by have := ok2.c0; have := ok2.c1; omega) (by decide)
    simp only [evE, evEs, List.getElem?_cons_succ, List.getElem?_cons_zero, Res.bind_ok, h2.fo, h2.ct, b_mul m1, b_add]
    rw [asT]
    simp only [List.length_cons, List.length_nil, List.set_cons_succ, List.set_cons_zero, show (4 < 0 + 1 + 1 + 1 + 1 + 1) = True by simp, if_true, Res.bind_ok]
    rw [exC]
    have pw : powOk (q2.fo + q2.ct * 6007 + 173) 63 := by
      refine ⟨by decide, by decide, ?_⟩
      have := ok2.c0; have := ok2.c1; have := ok2.f0; have := ok2.f1
      omega
    simp only [evE, evEs, List.getElem?_cons_succ, List.getElem?_cons_zero, Res.bind_ok, b_pow pw, b_mod (show (2305843009213693951 : Int) ≠ 0 by decide), p_int, b_div (div_ok (b := 512) (by decide) (by decide)), b_mod hne]
    exact ⟨_, _, rfl, Int.fmod_nonneg_of_pos _ (by omega), Int.fmod_lt_of_pos _ (by omega), ok2⟩
end K90

namespace K90
open PySem PySem.Spec PyProof.Rows L2 PV
/-! ### what stays -/
/-- all objects but the pen at p stay -/
def Kp (p : Nat) (S S' : Sto) : Prop := S.length ≤ S'.length ∧ ∀ n o, n ≠ p → S[n]? = some o → S'[n]? = some o
theorem Kp.refl {p : Nat} {S : Sto} : Kp p S S := ⟨Nat.le_refl _, fun _ _ _ h => h⟩
theorem Kp.trans {p : Nat} {S S1 S2 : Sto} (a : Kp p S S1) (b : Kp p S1 S2) : Kp p S S2 := ⟨Nat.le_trans a.1 b.1, fun n o h e => b.2 n o h (a.2 n o h e)⟩
theorem Kp.app {p : Nat} {S T : Sto} : Kp p S (S ++ T) := ⟨by simp, fun n o _ e => by rw [List.getElem?_append_left (List.getElem?_eq_some_iff.mp e).1]; exact e⟩
theorem Kp.set {p : Nat} {S : Sto} {o : O} : Kp p S (S.set p o) := ⟨by simp, fun n o' h e => by rw [List.getElem?_set_ne (Ne.symm h)]; exact e⟩
def isDct : Option O → Bool
  | some (.dct _) => true
  | _ => false
theorem listOf_kp {p : Nat} {S S' : Sto} (k : Kp p S S') (hp : isDct S[p]? = true) {v : D} {ds : List D} (h : PV.listOf S v = some ds) : PV.listOf S' v = some ds := by
  cases v with
  | loc n =>
    unfold PV.listOf at h ⊢
    dsimp only at h ⊢
    cases e : S[n]? with
    | none => rw [e] at h; cases h
    | some o =>
      rw [e] at h
      have ne : n ≠ p := fun z => by
        rw [z] at e
        rw [e] at hp
        cases o with
        | dct _ => cases h
        | _ => cases hp
      rw [k.2 n o ne e]
      exact h
  | _ => cases h
theorem toPy_kp {S S' : Sto} (k : ∀ v ds, PV.listOf S v = some ds → PV.listOf S' v = some ds) : ∀ (n : Nat) (d : D) (p : PyData), toPy S n d = some p → toPy S' n d = some p
  | 0, d, p, h => by cases h
  | n + 1, d, p, h => by
    have all : ∀ (ds : List D) (ps : List PyData), ds.mapM (toPy S n) = some ps → ds.mapM (toPy S' n) = some ps := by
      intro ds
      induction ds with
      | nil => intro ps h; exact h
      | cons d ds ih =>
        intro ps h
        rw [List.mapM_cons] at h ⊢
        cases e : toPy S n d with
        | none => rw [e] at h; cases h
        | some q =>
          rw [e] at h
          rw [toPy_kp k n d q e]
          cases e2 : ds.mapM (toPy S n) with
          | none => rw [e2] at h; cases h
          | some qs =>
            rw [e2] at h
            rw [ih qs e2]
            exact h
    cases d with
    | tup ds =>
      have h' : (ds.mapM (toPy S n)).map PyData.tuple = some p := h
      show (ds.mapM (toPy S' n)).map PyData.tuple = some p
      cases e : ds.mapM (toPy S n) with
      | none => rw [e] at h'; cases h'
      | some qs => rw [e] at h'; rw [all ds qs e]; exact h'
    | loc m =>
      have h' : (match PV.listOf S (.loc m) with
        | some ds => (ds.mapM (toPy S n)).map PyData.list
        | none => none) = some p := h
      show (match PV.listOf S' (.loc m) with
        | some ds => (ds.mapM (toPy S' n)).map PyData.list
        | none => none) = some p
      cases e1 : PV.listOf S (.loc m) with
      | none => rw [e1] at h'; cases h'
      | some ds =>
        rw [e1] at h'
        rw [k _ _ e1]
        have h' : (ds.mapM (toPy S n)).map PyData.list = some p := h'
        show (ds.mapM (toPy S' n)).map PyData.list = some p
        cases e : ds.mapM (toPy S n) with
        | none => rw [e] at h'; cases h'
        | some qs => rw [e] at h'; rw [all ds qs e]; exact h'
    | non => exact h
    | bl _ => exact h
    | int _ => exact h
    | str _ => exact h
    | glb _ => cases h
    | ty _ => cases h
    | lam _ => cases h
theorem toPy_succ {S : Sto} : ∀ (n : Nat) (d : D) (p : PyData), toPy S n d = some p → toPy S (n + 1) d = some p
  | 0, d, p, h => by cases h
  | n + 1, d, p, h => by
    have all : ∀ (ds : List D) (ps : List PyData), ds.mapM (toPy S n) = some ps → ds.mapM (toPy S (n + 1)) = some ps := by
      intro ds
      induction ds with
      | nil => intro ps h; exact h
      | cons d ds ih =>
        intro ps h
        rw [List.mapM_cons] at h ⊢
        cases e : toPy S n d with
        | none => rw [e] at h; cases h
        | some q =>
          rw [e] at h
          rw [toPy_succ n d q e]
          cases e2 : ds.mapM (toPy S n) with
          | none => rw [e2] at h; cases h
          | some qs =>
            rw [e2] at h
            rw [ih qs e2]
            exact h
    cases d with
    | tup ds =>
      have h' : (ds.mapM (toPy S n)).map PyData.tuple = some p := h
      show (ds.mapM (toPy S (n + 1))).map PyData.tuple = some p
      cases e : ds.mapM (toPy S n) with
      | none => rw [e] at h'; cases h'
      | some qs => rw [e] at h'; rw [all ds qs e]; exact h'
    | loc m =>
      have h' : (match PV.listOf S (.loc m) with
        | some ds => (ds.mapM (toPy S n)).map PyData.list
        | none => none) = some p := h
      show (match PV.listOf S (.loc m) with
        | some ds => (ds.mapM (toPy S (n + 1))).map PyData.list
        | none => none) = some p
      cases e1 : PV.listOf S (.loc m) with
      | none => rw [e1] at h'; cases h'
      | some ds =>
        rw [e1] at h'
        have h' : (ds.mapM (toPy S n)).map PyData.list = some p := h'
        show (ds.mapM (toPy S (n + 1))).map PyData.list = some p
        cases e : ds.mapM (toPy S n) with
        | none => rw [e] at h'; cases h'
        | some qs => rw [e] at h'; rw [all ds qs e]; exact h'
    | non => exact h
    | bl _ => exact h
    | int _ => exact h
    | str _ => exact h
    | glb _ => cases h
    | ty _ => cases h
    | lam _ => cases h
theorem bt_kp {p : Nat} {S S' : Sto} (k : Kp p S S') (hp : isDct S[p]? = true) {v : D} (hv : v ≠ .loc p) (h : Bt S v) : Bt S' v ∧ cpD S' v = cpD S v := by
  obtain ⟨t, h1, h2, h3⟩ := h
  cases v with
  | loc n =>
    have ne : n ≠ p := fun z => hv (by rw [z])
    have e0 : (match S[n]? with
      | some (.lst _) => some (Sum.inl "list") | some (.frz _) => some (.inl "list") | some (.dct _) => some (.inl "dict") | some (.ins c _) => some (.inr c) | none => none) = some (.inl t) := h1
    cases e : S[n]? with
    | none => rw [e] at e0; cases e0
    | some o =>
      have e' := k.2 n o ne e
      have el : PV.listOf S' (.loc n) = PV.listOf S (.loc n) := by
        unfold PV.listOf
        dsimp only
        rw [e, e']
      refine ⟨⟨t, ?_, h2, by rw [el]; exact h3⟩, ?_⟩
      · show (match S'[n]? with
          | some (.lst _) => some (Sum.inl "list") | some (.frz _) => some (.inl "list") | some (.dct _) => some (.inl "dict") | some (.ins c _) => some (.inr c) | none => none) = some (.inl t)
        rw [e']
        rw [e] at e0
        exact e0
      · unfold cpD
        rw [el]
  | _ => exact ⟨⟨t, h1, h2, h3⟩, rfl⟩
theorem set_last {S : Sto} {a b : O} : (S ++ [a]).set S.length b = S ++ [b] := by
  rw [List.set_append_right _ _ (Nat.le_refl _)]
  simp
theorem get_last {S : Sto} {a : O} : (S ++ [a])[S.length]? = some a := by
  rw [List.getElem?_append_right (Nat.le_refl _)]
  simp
/-- what stays where a new object comes -/
theorem bt_new {S : Sto} {a : O} {v : D} (h : Bt S v) : Bt (S ++ [a]) v ∧ cpD (S ++ [a]) v = cpD S v := by
  obtain ⟨t, h1, h2, h3⟩ := h
  cases v with
  | loc n =>
    have e0 : (match S[n]? with
      | some (.lst _) => some (Sum.inl "list") | some (.frz _) => some (.inl "list") | some (.dct _) => some (.inl "dict") | some (.ins c _) => some (.inr c) | none => none) = some (.inl t) := h1
    cases e : S[n]? with
    | none => rw [e] at e0; cases e0
    | some o =>
      have e' : (S ++ [a])[n]? = some o := by rw [List.getElem?_append_left (List.getElem?_eq_some_iff.mp e).1]; exact e
      have el : PV.listOf (S ++ [a]) (.loc n) = PV.listOf S (.loc n) := by
        unfold PV.listOf
        dsimp only
        rw [e, e']
      refine ⟨⟨t, ?_, h2, by rw [el]; exact h3⟩, ?_⟩
      · show (match (S ++ [a])[n]? with
          | some (.lst _) => some (Sum.inl "list") | some (.frz _) => some (.inl "list") | some (.dct _) => some (.inl "dict") | some (.ins c _) => some (.inr c) | none => none) = some (.inl t)
        rw [e']
        rw [e] at e0
        exact e0
      · unfold cpD
        rw [el]
  | _ => exact ⟨⟨t, h1, h2, h3⟩, rfl⟩
/-! ### parts of the classes' code -/
theorem isi_ins {S : Sto} {y : Nat} {c c' : Str} {fs : List (Str × D)} (hy : S[y]? = some (.ins c' fs)) (h1 : cls90.contains c = true) (h2 : cls90.contains c' = true) : isiP (fun c => cls90.contains c) [.loc y, .glb c] S = .ok (.bl (decide (c' = c))) S := by
  unfold isiP
  dsimp only
  rw [show tyD S (.loc y) = some (.inr c') by show (match S[y]? with | some (.lst _) => some (Sum.inl "list") | some (.frz _) => some (.inl "list") | some (.dct _) => some (.inl "dict") | some (.ins c _) => some (.inr c) | none => none) = _; rw [hy]]
  dsimp only
  show (match isa (fun c => cls90.contains c) (.inr c') (.glb c) with | some b => Res.ok (D.bl b) S | none => .bad) = _
  have e : isa (fun c => cls90.contains c) (.inr c') (.glb c) = some (decide (c' = c)) := by
    show (if cls90.contains c = true then (if cls90.contains c' = true then some (decide (c' = c)) else none) else none) = _
    rw [if_pos h1, if_pos h2]
  rw [e]
theorem fld_ins {S : Sto} {x : Nat} {c f : Str} {fs : List (Str × D)} {v : D} (hx : S[x]? = some (.ins c fs)) (h1 : attr90 c f = true) (h2 : fs.lookup f = some v) : fldD attr90 (.loc x) f S = .ok v S := by
  unfold fldD
  dsimp only
  rw [hx]
  dsimp only
  rw [if_pos h1, h2]
theorem eq_py {S : Sto} {a b : D} {p q : PyData} (ha : toPy S 11 a = some p) (hb : toPy S 11 b = some q) (sa : SeqAt.shaped p = true) (sb : SeqAt.shaped q = true) (call : Str → Str → List D → Sto → Res D) (cls : Str → Bool) (hi : insOf S a = none) : cmpD call cls .Eq a b S = .ok (.bl (PyData.eqv p q)) S := by
  show (match insOf S a with
    | some c => ownCmp call cls "__eq__" c a b S
    | none => (match eqD S a b with | some b => Res.ok (D.bl b) S | none => .bad)) = _
  rw [hi]
  dsimp only
  have e : eqD S a b = some (PyData.eqv p q) := by
    unfold eqD
    rw [toPy_succ 11 a p ha, toPy_succ 11 b q hb]
    dsimp only
    rw [if_pos ⟨sa, sb⟩]
  rw [e]
theorem ne_py {S : Sto} {a b : D} {p q : PyData} (ha : toPy S 11 a = some p) (hb : toPy S 11 b = some q) (sa : SeqAt.shaped p = true) (sb : SeqAt.shaped q = true) (call : Str → Str → List D → Sto → Res D) (cls : Str → Bool) (hi : insOf S a = none) : cmpD call cls .NotEq a b S = .ok (.bl (!(PyData.eqv p q))) S := by
  show (match insOf S a with
    | some c => ownCmp call cls "__ne__" c a b S
    | none => (match eqD S a b with | some b => Res.ok (D.bl (!b)) S | none => .bad)) = _
  rw [hi]
  dsimp only
  have e : eqD S a b = some (PyData.eqv p q) := by
    unfold eqD
    rw [toPy_succ 11 a p ha, toPy_succ 11 b q hb]
    dsimp only
    rw [if_pos ⟨sa, sb⟩]
  rw [e]
/-- plain data -/
structure Gd (p : PyData) : Prop where
  lay : p.canLay0 = true
  dp : p.depth ≤ 10
  sw : p.showable = true
  ln : p.shown.length ≤ 1000
  so : PyData.strOk p.shown = true
theorem gd_tup : ∀ {ps : List PyData}, (∀ p ∈ ps, Gd p) → PyData.canLayAll0 ps = true ∧ PyData.depthAll ps ≤ 10 ∧ PyData.showableAll ps = true
  | [], _ => ⟨rfl, Nat.zero_le _, rfl⟩
  | p :: ps, h => by
    obtain ⟨h1, h2, h3⟩ := gd_tup fun q hq => h q (List.mem_cons_of_mem _ hq)
    have g := h p List.mem_cons_self
    have gd := g.dp
    refine ⟨?_, ?_, ?_⟩
    · rw [PyData.canLayAll0, g.lay, h1]; rfl
    · rw [PyData.depthAll]
      omega
    · rw [PyData.showableAll, g.sw, h3]; rfl
theorem Gd.sh {p : PyData} (g : Gd p) : SeqAt.shaped p = true := by
  unfold SeqAt.shaped
  rw [g.lay, decide_eq_true (Nat.le_trans g.dp (by decide))]
  rfl
theorem sh_tup {ps : List PyData} (h : ∀ p ∈ ps, Gd p) : SeqAt.shaped (.tuple ps) = true := by
  obtain ⟨h1, h2, h3⟩ := gd_tup h
  unfold SeqAt.shaped
  rw [PyData.canLay0, h1, PyData.depth, decide_eq_true (by omega)]
  rfl
/-- a field's value: data, no instance -/
structure Fv (S : Sto) (v : D) (p : PyData) : Prop where
  py : toPy S 10 v = some p
  g : Gd p
theorem Fv.sh {S : Sto} {v : D} {p : PyData} (h : Fv S v p) : SeqAt.shaped p = true := h.g.sh
theorem Fv.ins {S : Sto} {v : D} {p : PyData} (h : Fv S v p) : insOf S v = none := by
  cases v with
  | loc n =>
    have h' : (match PV.listOf S (.loc n) with
        | some ds => (ds.mapM (toPy S 9)).map PyData.list
        | none => none) = some p := h.py
    show (match S[n]? with | some (.ins c _) => some c | _ => none) = none
    cases e : S[n]? with
    | none => rfl
    | some o =>
      cases o with
      | ins c fs =>
        have : PV.listOf S (.loc n) = none := by
          unfold PV.listOf
          dsimp only
          rw [e]
        rw [this] at h'
        cases h'
      | _ => rfl
  | _ => rfl
theorem Fv.p11 {S : Sto} {v : D} {p : PyData} (h : Fv S v p) : toPy S 11 v = some p := toPy_succ 10 v p h.py
theorem Fv.kp {q : Nat} {S S' : Sto} {v : D} {p : PyData} (h : Fv S v p) (k : Kp q S S') (hp : isDct S[q]? = true) : Fv S' v p := ⟨toPy_kp (fun _ _ e => listOf_kp k hp e) 10 v p h.py, h.g⟩
theorem own_cmp {S : Sto} {x y : Nat} {c c' m : Str} {fs fs' : List (Str × D)} {call : Str → Str → List D → Sto → Res D} (hx : S[x]? = some (.ins c fs)) (hy : S[y]? = some (.ins c' fs')) (h1 : cls90.contains c = true) (h2 : cls90.contains c' = true) : ownCmp call (fun c => cls90.contains c) m c (.loc x) (.loc y) S = call c m [.loc x, .loc y] S := by
  unfold ownCmp
  rw [show tyD S (.loc y) = some (.inr c') by show (match S[y]? with | some (.lst _) => some (Sum.inl "list") | some (.frz _) => some (.inl "list") | some (.dct _) => some (.inl "dict") | some (.ins c _) => some (.inr c) | none => none) = _; rw [hy]]
  dsimp only
  rw [if_pos ⟨h1, h2⟩]
theorem cmp_own_eq {S : Sto} {x y : Nat} {c c' : Str} {fs fs' : List (Str × D)} {call : Str → Str → List D → Sto → Res D} (hx : S[x]? = some (.ins c fs)) (hy : S[y]? = some (.ins c' fs')) (h1 : cls90.contains c = true) (h2 : cls90.contains c' = true) : cmpD call (fun c => cls90.contains c) .Eq (.loc x) (.loc y) S = call c "__eq__" [.loc x, .loc y] S := by
  show (match insOf S (.loc x) with
    | some c => ownCmp call (fun c => cls90.contains c) "__eq__" c (.loc x) (.loc y) S
    | none => (match eqD S (.loc x) (.loc y) with | some b => Res.ok (D.bl b) S | none => .bad)) = _
  rw [show insOf S (.loc x) = some c by show (match S[x]? with | some (.ins c _) => some c | _ => none) = _; rw [hx]]
  exact own_cmp hx hy h1 h2
theorem cmp_own_ne {S : Sto} {x y : Nat} {c c' : Str} {fs fs' : List (Str × D)} {call : Str → Str → List D → Sto → Res D} (hx : S[x]? = some (.ins c fs)) (hy : S[y]? = some (.ins c' fs')) (h1 : cls90.contains c = true) (h2 : cls90.contains c' = true) : cmpD call (fun c => cls90.contains c) .NotEq (.loc x) (.loc y) S = call c "__ne__" [.loc x, .loc y] S := by
  show (match insOf S (.loc x) with
    | some c => ownCmp call (fun c => cls90.contains c) "__ne__" c (.loc x) (.loc y) S
    | none => (match eqD S (.loc x) (.loc y) with | some b => Res.ok (D.bl (!b)) S | none => .bad)) = _
  rw [show insOf S (.loc x) = some c by show (match S[x]? with | some (.ins c _) => some c | _ => none) = _; rw [hx]]
  exact own_cmp hx hy h1 h2
/-- not == gives != -/
theorem ne_of_eq (k : Nat) {c c' : Str} {S : Sto} {x y : Nat} {fs fs' : List (Str × D)} {b : Bool} {cd : Cs} (hcd : cd = Cs.cons (C.ret (Oe.some (E.not (E.cmp CmpOp.Eq (E.var 0) (E.var 1))))) Cs.nil) (hl : mtT.lookup (c, ("__ne__" : Str)) = some ⟨["self", "other"], ["self", "other"], cd, none⟩) (hx : S[x]? = some (.ins c fs)) (hy : S[y]? = some (.ins c' fs')) (h1 : cls90.contains c = true) (h2 : cls90.contains c' = true)
    (h : (lv k).mc c "__eq__" [.loc x, .loc y] S = .ok (.bl b) S) : (lv (k + 1)).mc c "__ne__" [.loc x, .loc y] S = .ok (.bl (!b)) S := by
  rw [lv_mc k c "__ne__" hl]
  subst hcd
  unfold callC runC
  rw [if_pos (by rfl)]
  simp only [show startD (List.length ([("self" : Str), "other"])) [D.loc x, D.loc y] = [some (.loc x), some (.loc y)] from rfl]
  rw [exCs, exC]
  simp only [evE, List.getElem?_cons_zero, List.getElem?_cons_succ, Res.bind_ok]
  rw [show (semL none false (lv k)).cls = fun c => cls90.contains c from rfl, cmp_own_eq hx hy h1 h2, show (semL none false (lv k)).mcall = (lv k).mc from rfl, h]
  simp only [Res.bind_ok]
end K90

namespace K90
open PySem PySem.Spec PyProof.Rows L2 PV
/-! ### the classes -/
section
variable {hh : Option Str} {r : Bool} {l : Lv} {cls : Str → Bool} {gc rp : Bool} {vs : List D} {S : Sto}
theorem s_cls : (semL hh r l).cls = fun c => cls90.contains c := rfl
theorem s_attr : (semL hh r l).attr = attr90 := rfl
theorem s_call : (semL hh r l).call = l.cl := rfl
theorem s_mcall : (semL hh r l).mcall = l.mc := rfl
theorem s_make : (semL hh r l).make = l.mq := rfl
theorem s_lam : (semL hh r l).lam = l.lm := rfl
theorem s_glob : (semL hh r l).glob = glob90 := rfl
theorem s_rp : (semL hh r l).rp = r := rfl
theorem p_isi : primD cls gc rp .isi vs S = isiP cls vs S := rfl
end
theorem mapM_nil {S : Sto} {n : Nat} : ([] : List D).mapM (toPy S n) = some [] := rfl
theorem mapM_cons {S : Sto} {n : Nat} {d : D} {p : PyData} {ds : List D} {ps : List PyData} (h : toPy S n d = some p) (t : ds.mapM (toPy S n) = some ps) : (d :: ds).mapM (toPy S n) = some (p :: ps) := by
  rw [List.mapM_cons, h]
  show (do let bs ← ds.mapM (toPy S n); pure (p :: bs)) = _
  rw [t]
  rfl
theorem toPy_tup {S : Sto} {n : Nat} {ds : List D} {ps : List PyData} (h : ds.mapM (toPy S n) = some ps) : toPy S (n + 1) (.tup ds) = some (.tuple ps) := by
  show (ds.mapM (toPy S n)).map PyData.tuple = _
  rw [h]
  rfl
theorem asT_fld {M : Sem} {σ : En} {S : Sto} {o : E} {v : D} {c f : Str} {fs : List (Str × D)} {n : Nat} (ho : evE M o σ S = .ok (.loc n) S) (hx : S[n]? = some (.ins c fs)) (hl : fs.length < 100) (ha : M.attr c f = true) : asT M (.fld o f) v σ S = .ok σ (S.set n (.ins c (putFD f v fs))) := by
  unfold asT
  rw [ho, Res.bind_ok]
  dsimp only
  rw [hx]
  dsimp only
  rw [if_pos ⟨hl, ha⟩]
theorem tup_le {vs : List D} {σ : En} {S : Sto} (h : vs.length ≤ 100) : (if vs.length ≤ mostLen then (Res.ok (D.tup vs) S) else .bad) = .ok (.tup vs) S := if_pos (Nat.le_trans h (by decide))
theorem gl_Stresses : glob90 "Stresses" = some (.glb "Stresses") := by kernel_rfl
theorem gl_Stills : glob90 "Stills" = some (.glb "Stills") := by kernel_rfl
theorem gl_Carries : glob90 "Carries" = some (.glb "Carries") := by kernel_rfl
theorem gl_Yields : glob90 "Yields" = some (.glb "Yields") := by kernel_rfl
theorem gl_Factor : glob90 "Factor" = some (.glb "Factor") := by kernel_rfl
theorem gl_Endless : glob90 "Endless" = some (.glb "Endless") := by kernel_rfl
theorem gl_Range : glob90 "Range" = some (.glb "Range") := by kernel_rfl
theorem gl_Moves : glob90 "Moves" = some (.glb "Moves") := by kernel_rfl
theorem gl_Gives : glob90 "Gives" = some (.glb "Gives") := by kernel_rfl
theorem gl_Moment : glob90 "Moment" = some (.glb "Moment") := by kernel_rfl
theorem gl_Bends : glob90 "Bends" = some (.glb "Bends") := by kernel_rfl
theorem gl_Loose : glob90 "Loose" = some (.glb "Loose") := by kernel_rfl
theorem gl_Line : glob90 "Line" = some (.glb "Line") := by kernel_rfl
theorem gl_Design : glob90 "Design" = some (.glb "Design") := by kernel_rfl
theorem gl_Model : glob90 "Model" = some (.glb "Model") := by kernel_rfl
theorem gl_Paper : glob90 "Paper" = some (.glb "Paper") := by kernel_rfl
theorem model_key_spec (k : Nat) {S : Sto} {x : Nat} {a1 a2 a3 a4 a5 a6 : D} (hx : S[x]? = some (.ins "Model" [("joints", a1), ("beams", a2), ("marks", a3), ("loads", a4), ("asks", a5), ("prices", a6)])) : (lv (k + 1)).cl "model_key" [.loc x] S = .ok (.tup [a1, a2, a3, a4, a5, a6]) S := by
  rw [lv_cl k "model_key" (e := ⟨n_model_key, p_model_key, c_model_key.1, none⟩) (by kernel_rfl)]
  unfold callC runC c_model_key
  rw [if_pos (by rfl)]
  simp only [show startD n_model_key.length [D.loc x] = [some (.loc x)] from rfl]
  rw [exCs, exC]
  have f1 := fld_ins (f := "joints") (v := a1) hx (by decide +kernel) (by kernel_rfl)
  have f2 := fld_ins (f := "beams") (v := a2) hx (by decide +kernel) (by kernel_rfl)
  have f3 := fld_ins (f := "marks") (v := a3) hx (by decide +kernel) (by kernel_rfl)
  have f4 := fld_ins (f := "loads") (v := a4) hx (by decide +kernel) (by kernel_rfl)
  have f5 := fld_ins (f := "asks") (v := a5) hx (by decide +kernel) (by kernel_rfl)
  have f6 := fld_ins (f := "prices") (v := a6) hx (by decide +kernel) (by kernel_rfl)
  simp only [evE, evEs, List.getElem?_cons_zero, Res.bind_ok, s_attr, f1, f2, f3, f4, f5, f6]
  rfl
theorem eq_Stresses (k : Nat) {S : Sto} {x y : Nat} {a1 b1 : D} {p1 q1 : PyData} (hx : S[x]? = some (.ins "Stresses" [("rows", a1)])) (hy : S[y]? = some (.ins "Stresses" [("rows", b1)])) (ha1 : Fv S a1 p1) (hb1 : Fv S b1 q1) : (lv (k + 2)).mc "Stresses" "__eq__" [.loc x, .loc y] S = .ok (.bl (p1.eqv q1)) S := by
  rw [lv_mc (k + 1) "Stresses" "__eq__" (e := ⟨n_Stresses__eq__, p_Stresses__eq__, c_Stresses__eq__.1, none⟩) (by kernel_rfl)]
  unfold callC runC c_Stresses__eq__
  rw [if_pos (by rfl)]
  simp only [show startD n_Stresses__eq__.length [D.loc x, D.loc y] = [some (.loc x), some (.loc y)] from rfl]
  rw [exCs, exC]
  have f1 := fld_ins (f := "rows") (v := a1) hx (by decide +kernel) (by kernel_rfl)
  have g1 := fld_ins (f := "rows") (v := b1) hy (by decide +kernel) (by kernel_rfl)
  have hi := isi_ins (c := "Stresses") hy (by decide +kernel) (by decide +kernel)
  rw [show decide (("Stresses" : Str) = "Stresses") = true from decide_eq_true rfl] at hi
  simp only [evE, evEs, List.getElem?_cons_zero, List.getElem?_cons_succ, Res.bind_ok, s_cls, s_glob, s_attr, gl_Stresses, p_isi, hi, f1, g1, eq_py ha1.p11 hb1.p11 ha1.sh hb1.sh _ _ ha1.ins]
theorem eqd_Stresses (k : Nat) {S : Sto} {x y : Nat} {fs : List (Str × D)} {c' : Str} (hy : S[y]? = some (.ins c' fs)) (hc : cls90.contains c' = true) (hne : c' ≠ "Stresses") : (lv (k + 2)).mc "Stresses" "__eq__" [.loc x, .loc y] S = .ok (.bl false) S := by
  rw [lv_mc (k + 1) "Stresses" "__eq__" (e := ⟨n_Stresses__eq__, p_Stresses__eq__, c_Stresses__eq__.1, none⟩) (by kernel_rfl)]
  unfold callC runC c_Stresses__eq__
  rw [if_pos (by rfl)]
  simp only [show startD n_Stresses__eq__.length [D.loc x, D.loc y] = [some (.loc x), some (.loc y)] from rfl]
  rw [exCs, exC]
  have hi := isi_ins (c := "Stresses") hy (by decide +kernel) hc
  rw [decide_eq_false hne] at hi
  simp only [evE, evEs, List.getElem?_cons_zero, List.getElem?_cons_succ, Res.bind_ok, s_cls, s_glob, s_attr, gl_Stresses, p_isi, hi]
theorem eq_Stills (k : Nat) {S : Sto} {x y : Nat} {a1 b1 : D} {p1 q1 : PyData} (hx : S[x]? = some (.ins "Stills" [("rows", a1)])) (hy : S[y]? = some (.ins "Stills" [("rows", b1)])) (ha1 : Fv S a1 p1) (hb1 : Fv S b1 q1) : (lv (k + 2)).mc "Stills" "__eq__" [.loc x, .loc y] S = .ok (.bl (p1.eqv q1)) S := by
  rw [lv_mc (k + 1) "Stills" "__eq__" (e := ⟨n_Stills__eq__, p_Stills__eq__, c_Stills__eq__.1, none⟩) (by kernel_rfl)]
  unfold callC runC c_Stills__eq__
  rw [if_pos (by rfl)]
  simp only [show startD n_Stills__eq__.length [D.loc x, D.loc y] = [some (.loc x), some (.loc y)] from rfl]
  rw [exCs, exC]
  have f1 := fld_ins (f := "rows") (v := a1) hx (by decide +kernel) (by kernel_rfl)
  have g1 := fld_ins (f := "rows") (v := b1) hy (by decide +kernel) (by kernel_rfl)
  have hi := isi_ins (c := "Stills") hy (by decide +kernel) (by decide +kernel)
  rw [show decide (("Stills" : Str) = "Stills") = true from decide_eq_true rfl] at hi
  simp only [evE, evEs, List.getElem?_cons_zero, List.getElem?_cons_succ, Res.bind_ok, s_cls, s_glob, s_attr, gl_Stills, p_isi, hi, f1, g1, eq_py ha1.p11 hb1.p11 ha1.sh hb1.sh _ _ ha1.ins]
theorem eqd_Stills (k : Nat) {S : Sto} {x y : Nat} {fs : List (Str × D)} {c' : Str} (hy : S[y]? = some (.ins c' fs)) (hc : cls90.contains c' = true) (hne : c' ≠ "Stills") : (lv (k + 2)).mc "Stills" "__eq__" [.loc x, .loc y] S = .ok (.bl false) S := by
  rw [lv_mc (k + 1) "Stills" "__eq__" (e := ⟨n_Stills__eq__, p_Stills__eq__, c_Stills__eq__.1, none⟩) (by kernel_rfl)]
  unfold callC runC c_Stills__eq__
  rw [if_pos (by rfl)]
  simp only [show startD n_Stills__eq__.length [D.loc x, D.loc y] = [some (.loc x), some (.loc y)] from rfl]
  rw [exCs, exC]
  have hi := isi_ins (c := "Stills") hy (by decide +kernel) hc
  rw [decide_eq_false hne] at hi
  simp only [evE, evEs, List.getElem?_cons_zero, List.getElem?_cons_succ, Res.bind_ok, s_cls, s_glob, s_attr, gl_Stills, p_isi, hi]
theorem eq_Carries (k : Nat) {S : Sto} {x y : Nat} {a1 b1 : D} {p1 q1 : PyData} (hx : S[x]? = some (.ins "Carries" [("forces", a1)])) (hy : S[y]? = some (.ins "Carries" [("forces", b1)])) (ha1 : Fv S a1 p1) (hb1 : Fv S b1 q1) : (lv (k + 2)).mc "Carries" "__eq__" [.loc x, .loc y] S = .ok (.bl (p1.eqv q1)) S := by
  rw [lv_mc (k + 1) "Carries" "__eq__" (e := ⟨n_Carries__eq__, p_Carries__eq__, c_Carries__eq__.1, none⟩) (by kernel_rfl)]
  unfold callC runC c_Carries__eq__
  rw [if_pos (by rfl)]
  simp only [show startD n_Carries__eq__.length [D.loc x, D.loc y] = [some (.loc x), some (.loc y)] from rfl]
  rw [exCs, exC]
  have f1 := fld_ins (f := "forces") (v := a1) hx (by decide +kernel) (by kernel_rfl)
  have g1 := fld_ins (f := "forces") (v := b1) hy (by decide +kernel) (by kernel_rfl)
  have hi := isi_ins (c := "Carries") hy (by decide +kernel) (by decide +kernel)
  rw [show decide (("Carries" : Str) = "Carries") = true from decide_eq_true rfl] at hi
  simp only [evE, evEs, List.getElem?_cons_zero, List.getElem?_cons_succ, Res.bind_ok, s_cls, s_glob, s_attr, gl_Carries, p_isi, hi, f1, g1, eq_py ha1.p11 hb1.p11 ha1.sh hb1.sh _ _ ha1.ins]
theorem eqd_Carries (k : Nat) {S : Sto} {x y : Nat} {fs : List (Str × D)} {c' : Str} (hy : S[y]? = some (.ins c' fs)) (hc : cls90.contains c' = true) (hne : c' ≠ "Carries") : (lv (k + 2)).mc "Carries" "__eq__" [.loc x, .loc y] S = .ok (.bl false) S := by
  rw [lv_mc (k + 1) "Carries" "__eq__" (e := ⟨n_Carries__eq__, p_Carries__eq__, c_Carries__eq__.1, none⟩) (by kernel_rfl)]
  unfold callC runC c_Carries__eq__
  rw [if_pos (by rfl)]
  simp only [show startD n_Carries__eq__.length [D.loc x, D.loc y] = [some (.loc x), some (.loc y)] from rfl]
  rw [exCs, exC]
  have hi := isi_ins (c := "Carries") hy (by decide +kernel) hc
  rw [decide_eq_false hne] at hi
  simp only [evE, evEs, List.getElem?_cons_zero, List.getElem?_cons_succ, Res.bind_ok, s_cls, s_glob, s_attr, gl_Carries, p_isi, hi]
theorem eq_Yields (k : Nat) {S : Sto} {x y : Nat} {a1 a2 b1 b2 : D} {p1 p2 q1 q2 : PyData} (hx : S[x]? = some (.ins "Yields" [("motion", a1), ("kinks", a2)])) (hy : S[y]? = some (.ins "Yields" [("motion", b1), ("kinks", b2)])) (ha1 : Fv S a1 p1) (hb1 : Fv S b1 q1) (ha2 : Fv S a2 p2) (hb2 : Fv S b2 q2) : (lv (k + 2)).mc "Yields" "__eq__" [.loc x, .loc y] S = .ok (.bl ((PyData.tuple [p1, p2]).eqv (.tuple [q1, q2]))) S := by
  rw [lv_mc (k + 1) "Yields" "__eq__" (e := ⟨n_Yields__eq__, p_Yields__eq__, c_Yields__eq__.1, none⟩) (by kernel_rfl)]
  unfold callC runC c_Yields__eq__
  rw [if_pos (by rfl)]
  simp only [show startD n_Yields__eq__.length [D.loc x, D.loc y] = [some (.loc x), some (.loc y)] from rfl]
  rw [exCs, exC]
  have f1 := fld_ins (f := "motion") (v := a1) hx (by decide +kernel) (by kernel_rfl)
  have g1 := fld_ins (f := "motion") (v := b1) hy (by decide +kernel) (by kernel_rfl)
  have f2 := fld_ins (f := "kinks") (v := a2) hx (by decide +kernel) (by kernel_rfl)
  have g2 := fld_ins (f := "kinks") (v := b2) hy (by decide +kernel) (by kernel_rfl)
  have t1 := @tup_le [a1, a2] [some (.loc x), some (.loc y)] S (by simp)
  have t2 := @tup_le [b1, b2] [some (.loc x), some (.loc y)] S (by simp)
  have hi := isi_ins (c := "Yields") hy (by decide +kernel) (by decide +kernel)
  rw [show decide (("Yields" : Str) = "Yields") = true from decide_eq_true rfl] at hi
  simp only [evE, evEs, List.getElem?_cons_zero, List.getElem?_cons_succ, Res.bind_ok, s_cls, s_glob, s_attr, gl_Yields, p_isi, hi, f1, g1, f2, g2, t1, t2, eq_py (toPy_tup (mapM_cons ha1.py (mapM_cons ha2.py mapM_nil))) (toPy_tup (mapM_cons hb1.py (mapM_cons hb2.py mapM_nil))) (sh_tup (by simp only [List.mem_cons, List.not_mem_nil, or_false, forall_eq_or_imp, forall_eq]; exact ⟨ha1.g, ha2.g⟩)) (sh_tup (by simp only [List.mem_cons, List.not_mem_nil, or_false, forall_eq_or_imp, forall_eq]; exact ⟨hb1.g, hb2.g⟩)) _ _ rfl]
theorem eqd_Yields (k : Nat) {S : Sto} {x y : Nat} {fs : List (Str × D)} {c' : Str} (hy : S[y]? = some (.ins c' fs)) (hc : cls90.contains c' = true) (hne : c' ≠ "Yields") : (lv (k + 2)).mc "Yields" "__eq__" [.loc x, .loc y] S = .ok (.bl false) S := by
  rw [lv_mc (k + 1) "Yields" "__eq__" (e := ⟨n_Yields__eq__, p_Yields__eq__, c_Yields__eq__.1, none⟩) (by kernel_rfl)]
  unfold callC runC c_Yields__eq__
  rw [if_pos (by rfl)]
  simp only [show startD n_Yields__eq__.length [D.loc x, D.loc y] = [some (.loc x), some (.loc y)] from rfl]
  rw [exCs, exC]
  have hi := isi_ins (c := "Yields") hy (by decide +kernel) hc
  rw [decide_eq_false hne] at hi
  simp only [evE, evEs, List.getElem?_cons_zero, List.getElem?_cons_succ, Res.bind_ok, s_cls, s_glob, s_attr, gl_Yields, p_isi, hi]
theorem eq_Factor (k : Nat) {S : Sto} {x y : Nat} {a1 b1 : D} {p1 q1 : PyData} (hx : S[x]? = some (.ins "Factor" [("ratio", a1)])) (hy : S[y]? = some (.ins "Factor" [("ratio", b1)])) (ha1 : Fv S a1 p1) (hb1 : Fv S b1 q1) : (lv (k + 2)).mc "Factor" "__eq__" [.loc x, .loc y] S = .ok (.bl (p1.eqv q1)) S := by
  rw [lv_mc (k + 1) "Factor" "__eq__" (e := ⟨n_Factor__eq__, p_Factor__eq__, c_Factor__eq__.1, none⟩) (by kernel_rfl)]
  unfold callC runC c_Factor__eq__
  rw [if_pos (by rfl)]
  simp only [show startD n_Factor__eq__.length [D.loc x, D.loc y] = [some (.loc x), some (.loc y)] from rfl]
  rw [exCs, exC]
  have f1 := fld_ins (f := "ratio") (v := a1) hx (by decide +kernel) (by kernel_rfl)
  have g1 := fld_ins (f := "ratio") (v := b1) hy (by decide +kernel) (by kernel_rfl)
  have hi := isi_ins (c := "Factor") hy (by decide +kernel) (by decide +kernel)
  rw [show decide (("Factor" : Str) = "Factor") = true from decide_eq_true rfl] at hi
  simp only [evE, evEs, List.getElem?_cons_zero, List.getElem?_cons_succ, Res.bind_ok, s_cls, s_glob, s_attr, gl_Factor, p_isi, hi, f1, g1, eq_py ha1.p11 hb1.p11 ha1.sh hb1.sh _ _ ha1.ins]
theorem eqd_Factor (k : Nat) {S : Sto} {x y : Nat} {fs : List (Str × D)} {c' : Str} (hy : S[y]? = some (.ins c' fs)) (hc : cls90.contains c' = true) (hne : c' ≠ "Factor") : (lv (k + 2)).mc "Factor" "__eq__" [.loc x, .loc y] S = .ok (.bl false) S := by
  rw [lv_mc (k + 1) "Factor" "__eq__" (e := ⟨n_Factor__eq__, p_Factor__eq__, c_Factor__eq__.1, none⟩) (by kernel_rfl)]
  unfold callC runC c_Factor__eq__
  rw [if_pos (by rfl)]
  simp only [show startD n_Factor__eq__.length [D.loc x, D.loc y] = [some (.loc x), some (.loc y)] from rfl]
  rw [exCs, exC]
  have hi := isi_ins (c := "Factor") hy (by decide +kernel) hc
  rw [decide_eq_false hne] at hi
  simp only [evE, evEs, List.getElem?_cons_zero, List.getElem?_cons_succ, Res.bind_ok, s_cls, s_glob, s_attr, gl_Factor, p_isi, hi]
theorem eq_Endless (k : Nat) {S : Sto} {x y : Nat} {fs : List (Str × D)} {c' : Str} (hy : S[y]? = some (.ins c' fs)) (hc : cls90.contains c' = true) : (lv (k + 2)).mc "Endless" "__eq__" [.loc x, .loc y] S = .ok (.bl (decide (c' = "Endless"))) S := by
  rw [lv_mc (k + 1) "Endless" "__eq__" (e := ⟨n_Endless__eq__, p_Endless__eq__, c_Endless__eq__.1, none⟩) (by kernel_rfl)]
  unfold callC runC c_Endless__eq__
  rw [if_pos (by rfl)]
  simp only [show startD n_Endless__eq__.length [D.loc x, D.loc y] = [some (.loc x), some (.loc y)] from rfl]
  rw [exCs, exC]
  simp only [evE, evEs, List.getElem?_cons_zero, List.getElem?_cons_succ, Res.bind_ok, s_cls, s_glob, gl_Endless, p_isi, isi_ins (c := "Endless") hy (by decide +kernel) hc]
theorem eq_Range (k : Nat) {S : Sto} {x y : Nat} {a1 a2 b1 b2 : D} {p1 p2 q1 q2 : PyData} (hx : S[x]? = some (.ins "Range" [("low", a1), ("high", a2)])) (hy : S[y]? = some (.ins "Range" [("low", b1), ("high", b2)])) (ha1 : Fv S a1 p1) (hb1 : Fv S b1 q1) (ha2 : Fv S a2 p2) (hb2 : Fv S b2 q2) : (lv (k + 2)).mc "Range" "__eq__" [.loc x, .loc y] S = .ok (.bl ((PyData.tuple [p1, p2]).eqv (.tuple [q1, q2]))) S := by
  rw [lv_mc (k + 1) "Range" "__eq__" (e := ⟨n_Range__eq__, p_Range__eq__, c_Range__eq__.1, none⟩) (by kernel_rfl)]
  unfold callC runC c_Range__eq__
  rw [if_pos (by rfl)]
  simp only [show startD n_Range__eq__.length [D.loc x, D.loc y] = [some (.loc x), some (.loc y)] from rfl]
  rw [exCs, exC]
  have f1 := fld_ins (f := "low") (v := a1) hx (by decide +kernel) (by kernel_rfl)
  have g1 := fld_ins (f := "low") (v := b1) hy (by decide +kernel) (by kernel_rfl)
  have f2 := fld_ins (f := "high") (v := a2) hx (by decide +kernel) (by kernel_rfl)
  have g2 := fld_ins (f := "high") (v := b2) hy (by decide +kernel) (by kernel_rfl)
  have t1 := @tup_le [a1, a2] [some (.loc x), some (.loc y)] S (by simp)
  have t2 := @tup_le [b1, b2] [some (.loc x), some (.loc y)] S (by simp)
  have hi := isi_ins (c := "Range") hy (by decide +kernel) (by decide +kernel)
  rw [show decide (("Range" : Str) = "Range") = true from decide_eq_true rfl] at hi
  simp only [evE, evEs, List.getElem?_cons_zero, List.getElem?_cons_succ, Res.bind_ok, s_cls, s_glob, s_attr, gl_Range, p_isi, hi, f1, g1, f2, g2, t1, t2, eq_py (toPy_tup (mapM_cons ha1.py (mapM_cons ha2.py mapM_nil))) (toPy_tup (mapM_cons hb1.py (mapM_cons hb2.py mapM_nil))) (sh_tup (by simp only [List.mem_cons, List.not_mem_nil, or_false, forall_eq_or_imp, forall_eq]; exact ⟨ha1.g, ha2.g⟩)) (sh_tup (by simp only [List.mem_cons, List.not_mem_nil, or_false, forall_eq_or_imp, forall_eq]; exact ⟨hb1.g, hb2.g⟩)) _ _ rfl]
theorem eqd_Range (k : Nat) {S : Sto} {x y : Nat} {fs : List (Str × D)} {c' : Str} (hy : S[y]? = some (.ins c' fs)) (hc : cls90.contains c' = true) (hne : c' ≠ "Range") : (lv (k + 2)).mc "Range" "__eq__" [.loc x, .loc y] S = .ok (.bl false) S := by
  rw [lv_mc (k + 1) "Range" "__eq__" (e := ⟨n_Range__eq__, p_Range__eq__, c_Range__eq__.1, none⟩) (by kernel_rfl)]
  unfold callC runC c_Range__eq__
  rw [if_pos (by rfl)]
  simp only [show startD n_Range__eq__.length [D.loc x, D.loc y] = [some (.loc x), some (.loc y)] from rfl]
  rw [exCs, exC]
  have hi := isi_ins (c := "Range") hy (by decide +kernel) hc
  rw [decide_eq_false hne] at hi
  simp only [evE, evEs, List.getElem?_cons_zero, List.getElem?_cons_succ, Res.bind_ok, s_cls, s_glob, s_attr, gl_Range, p_isi, hi]
theorem eq_Moves (k : Nat) {S : Sto} {x y : Nat} {a1 b1 : D} {p1 q1 : PyData} (hx : S[x]? = some (.ins "Moves" [("forces", a1)])) (hy : S[y]? = some (.ins "Moves" [("forces", b1)])) (ha1 : Fv S a1 p1) (hb1 : Fv S b1 q1) : (lv (k + 2)).mc "Moves" "__eq__" [.loc x, .loc y] S = .ok (.bl (p1.eqv q1)) S := by
  rw [lv_mc (k + 1) "Moves" "__eq__" (e := ⟨n_Moves__eq__, p_Moves__eq__, c_Moves__eq__.1, none⟩) (by kernel_rfl)]
  unfold callC runC c_Moves__eq__
  rw [if_pos (by rfl)]
  simp only [show startD n_Moves__eq__.length [D.loc x, D.loc y] = [some (.loc x), some (.loc y)] from rfl]
  rw [exCs, exC]
  have f1 := fld_ins (f := "forces") (v := a1) hx (by decide +kernel) (by kernel_rfl)
  have g1 := fld_ins (f := "forces") (v := b1) hy (by decide +kernel) (by kernel_rfl)
  have hi := isi_ins (c := "Moves") hy (by decide +kernel) (by decide +kernel)
  rw [show decide (("Moves" : Str) = "Moves") = true from decide_eq_true rfl] at hi
  simp only [evE, evEs, List.getElem?_cons_zero, List.getElem?_cons_succ, Res.bind_ok, s_cls, s_glob, s_attr, gl_Moves, p_isi, hi, f1, g1, eq_py ha1.p11 hb1.p11 ha1.sh hb1.sh _ _ ha1.ins]
theorem eqd_Moves (k : Nat) {S : Sto} {x y : Nat} {fs : List (Str × D)} {c' : Str} (hy : S[y]? = some (.ins c' fs)) (hc : cls90.contains c' = true) (hne : c' ≠ "Moves") : (lv (k + 2)).mc "Moves" "__eq__" [.loc x, .loc y] S = .ok (.bl false) S := by
  rw [lv_mc (k + 1) "Moves" "__eq__" (e := ⟨n_Moves__eq__, p_Moves__eq__, c_Moves__eq__.1, none⟩) (by kernel_rfl)]
  unfold callC runC c_Moves__eq__
  rw [if_pos (by rfl)]
  simp only [show startD n_Moves__eq__.length [D.loc x, D.loc y] = [some (.loc x), some (.loc y)] from rfl]
  rw [exCs, exC]
  have hi := isi_ins (c := "Moves") hy (by decide +kernel) hc
  rw [decide_eq_false hne] at hi
  simp only [evE, evEs, List.getElem?_cons_zero, List.getElem?_cons_succ, Res.bind_ok, s_cls, s_glob, s_attr, gl_Moves, p_isi, hi]
theorem eq_Gives (k : Nat) {S : Sto} {x y : Nat} {a1 b1 : D} {p1 q1 : PyData} (hx : S[x]? = some (.ins "Gives" [("motion", a1)])) (hy : S[y]? = some (.ins "Gives" [("motion", b1)])) (ha1 : Fv S a1 p1) (hb1 : Fv S b1 q1) : (lv (k + 2)).mc "Gives" "__eq__" [.loc x, .loc y] S = .ok (.bl (p1.eqv q1)) S := by
  rw [lv_mc (k + 1) "Gives" "__eq__" (e := ⟨n_Gives__eq__, p_Gives__eq__, c_Gives__eq__.1, none⟩) (by kernel_rfl)]
  unfold callC runC c_Gives__eq__
  rw [if_pos (by rfl)]
  simp only [show startD n_Gives__eq__.length [D.loc x, D.loc y] = [some (.loc x), some (.loc y)] from rfl]
  rw [exCs, exC]
  have f1 := fld_ins (f := "motion") (v := a1) hx (by decide +kernel) (by kernel_rfl)
  have g1 := fld_ins (f := "motion") (v := b1) hy (by decide +kernel) (by kernel_rfl)
  have hi := isi_ins (c := "Gives") hy (by decide +kernel) (by decide +kernel)
  rw [show decide (("Gives" : Str) = "Gives") = true from decide_eq_true rfl] at hi
  simp only [evE, evEs, List.getElem?_cons_zero, List.getElem?_cons_succ, Res.bind_ok, s_cls, s_glob, s_attr, gl_Gives, p_isi, hi, f1, g1, eq_py ha1.p11 hb1.p11 ha1.sh hb1.sh _ _ ha1.ins]
theorem eqd_Gives (k : Nat) {S : Sto} {x y : Nat} {fs : List (Str × D)} {c' : Str} (hy : S[y]? = some (.ins c' fs)) (hc : cls90.contains c' = true) (hne : c' ≠ "Gives") : (lv (k + 2)).mc "Gives" "__eq__" [.loc x, .loc y] S = .ok (.bl false) S := by
  rw [lv_mc (k + 1) "Gives" "__eq__" (e := ⟨n_Gives__eq__, p_Gives__eq__, c_Gives__eq__.1, none⟩) (by kernel_rfl)]
  unfold callC runC c_Gives__eq__
  rw [if_pos (by rfl)]
  simp only [show startD n_Gives__eq__.length [D.loc x, D.loc y] = [some (.loc x), some (.loc y)] from rfl]
  rw [exCs, exC]
  have hi := isi_ins (c := "Gives") hy (by decide +kernel) hc
  rw [decide_eq_false hne] at hi
  simp only [evE, evEs, List.getElem?_cons_zero, List.getElem?_cons_succ, Res.bind_ok, s_cls, s_glob, s_attr, gl_Gives, p_isi, hi]
theorem eq_Moment (k : Nat) {S : Sto} {x y : Nat} {a1 b1 : D} {p1 q1 : PyData} (hx : S[x]? = some (.ins "Moment" [("ratio", a1)])) (hy : S[y]? = some (.ins "Moment" [("ratio", b1)])) (ha1 : Fv S a1 p1) (hb1 : Fv S b1 q1) : (lv (k + 2)).mc "Moment" "__eq__" [.loc x, .loc y] S = .ok (.bl (p1.eqv q1)) S := by
  rw [lv_mc (k + 1) "Moment" "__eq__" (e := ⟨n_Moment__eq__, p_Moment__eq__, c_Moment__eq__.1, none⟩) (by kernel_rfl)]
  unfold callC runC c_Moment__eq__
  rw [if_pos (by rfl)]
  simp only [show startD n_Moment__eq__.length [D.loc x, D.loc y] = [some (.loc x), some (.loc y)] from rfl]
  rw [exCs, exC]
  have f1 := fld_ins (f := "ratio") (v := a1) hx (by decide +kernel) (by kernel_rfl)
  have g1 := fld_ins (f := "ratio") (v := b1) hy (by decide +kernel) (by kernel_rfl)
  have hi := isi_ins (c := "Moment") hy (by decide +kernel) (by decide +kernel)
  rw [show decide (("Moment" : Str) = "Moment") = true from decide_eq_true rfl] at hi
  simp only [evE, evEs, List.getElem?_cons_zero, List.getElem?_cons_succ, Res.bind_ok, s_cls, s_glob, s_attr, gl_Moment, p_isi, hi, f1, g1, eq_py ha1.p11 hb1.p11 ha1.sh hb1.sh _ _ ha1.ins]
theorem eqd_Moment (k : Nat) {S : Sto} {x y : Nat} {fs : List (Str × D)} {c' : Str} (hy : S[y]? = some (.ins c' fs)) (hc : cls90.contains c' = true) (hne : c' ≠ "Moment") : (lv (k + 2)).mc "Moment" "__eq__" [.loc x, .loc y] S = .ok (.bl false) S := by
  rw [lv_mc (k + 1) "Moment" "__eq__" (e := ⟨n_Moment__eq__, p_Moment__eq__, c_Moment__eq__.1, none⟩) (by kernel_rfl)]
  unfold callC runC c_Moment__eq__
  rw [if_pos (by rfl)]
  simp only [show startD n_Moment__eq__.length [D.loc x, D.loc y] = [some (.loc x), some (.loc y)] from rfl]
  rw [exCs, exC]
  have hi := isi_ins (c := "Moment") hy (by decide +kernel) hc
  rw [decide_eq_false hne] at hi
  simp only [evE, evEs, List.getElem?_cons_zero, List.getElem?_cons_succ, Res.bind_ok, s_cls, s_glob, s_attr, gl_Moment, p_isi, hi]
theorem eq_Bends (k : Nat) {S : Sto} {x y : Nat} {a1 b1 : D} {p1 q1 : PyData} (hx : S[x]? = some (.ins "Bends" [("ratio", a1)])) (hy : S[y]? = some (.ins "Bends" [("ratio", b1)])) (ha1 : Fv S a1 p1) (hb1 : Fv S b1 q1) : (lv (k + 2)).mc "Bends" "__eq__" [.loc x, .loc y] S = .ok (.bl (p1.eqv q1)) S := by
  rw [lv_mc (k + 1) "Bends" "__eq__" (e := ⟨n_Bends__eq__, p_Bends__eq__, c_Bends__eq__.1, none⟩) (by kernel_rfl)]
  unfold callC runC c_Bends__eq__
  rw [if_pos (by rfl)]
  simp only [show startD n_Bends__eq__.length [D.loc x, D.loc y] = [some (.loc x), some (.loc y)] from rfl]
  rw [exCs, exC]
  have f1 := fld_ins (f := "ratio") (v := a1) hx (by decide +kernel) (by kernel_rfl)
  have g1 := fld_ins (f := "ratio") (v := b1) hy (by decide +kernel) (by kernel_rfl)
  have hi := isi_ins (c := "Bends") hy (by decide +kernel) (by decide +kernel)
  rw [show decide (("Bends" : Str) = "Bends") = true from decide_eq_true rfl] at hi
  simp only [evE, evEs, List.getElem?_cons_zero, List.getElem?_cons_succ, Res.bind_ok, s_cls, s_glob, s_attr, gl_Bends, p_isi, hi, f1, g1, eq_py ha1.p11 hb1.p11 ha1.sh hb1.sh _ _ ha1.ins]
theorem eqd_Bends (k : Nat) {S : Sto} {x y : Nat} {fs : List (Str × D)} {c' : Str} (hy : S[y]? = some (.ins c' fs)) (hc : cls90.contains c' = true) (hne : c' ≠ "Bends") : (lv (k + 2)).mc "Bends" "__eq__" [.loc x, .loc y] S = .ok (.bl false) S := by
  rw [lv_mc (k + 1) "Bends" "__eq__" (e := ⟨n_Bends__eq__, p_Bends__eq__, c_Bends__eq__.1, none⟩) (by kernel_rfl)]
  unfold callC runC c_Bends__eq__
  rw [if_pos (by rfl)]
  simp only [show startD n_Bends__eq__.length [D.loc x, D.loc y] = [some (.loc x), some (.loc y)] from rfl]
  rw [exCs, exC]
  have hi := isi_ins (c := "Bends") hy (by decide +kernel) hc
  rw [decide_eq_false hne] at hi
  simp only [evE, evEs, List.getElem?_cons_zero, List.getElem?_cons_succ, Res.bind_ok, s_cls, s_glob, s_attr, gl_Bends, p_isi, hi]
theorem eq_Loose (k : Nat) {S : Sto} {x y : Nat} {a1 b1 : D} {p1 q1 : PyData} (hx : S[x]? = some (.ins "Loose" [("motion", a1)])) (hy : S[y]? = some (.ins "Loose" [("motion", b1)])) (ha1 : Fv S a1 p1) (hb1 : Fv S b1 q1) : (lv (k + 2)).mc "Loose" "__eq__" [.loc x, .loc y] S = .ok (.bl (p1.eqv q1)) S := by
  rw [lv_mc (k + 1) "Loose" "__eq__" (e := ⟨n_Loose__eq__, p_Loose__eq__, c_Loose__eq__.1, none⟩) (by kernel_rfl)]
  unfold callC runC c_Loose__eq__
  rw [if_pos (by rfl)]
  simp only [show startD n_Loose__eq__.length [D.loc x, D.loc y] = [some (.loc x), some (.loc y)] from rfl]
  rw [exCs, exC]
  have f1 := fld_ins (f := "motion") (v := a1) hx (by decide +kernel) (by kernel_rfl)
  have g1 := fld_ins (f := "motion") (v := b1) hy (by decide +kernel) (by kernel_rfl)
  have hi := isi_ins (c := "Loose") hy (by decide +kernel) (by decide +kernel)
  rw [show decide (("Loose" : Str) = "Loose") = true from decide_eq_true rfl] at hi
  simp only [evE, evEs, List.getElem?_cons_zero, List.getElem?_cons_succ, Res.bind_ok, s_cls, s_glob, s_attr, gl_Loose, p_isi, hi, f1, g1, eq_py ha1.p11 hb1.p11 ha1.sh hb1.sh _ _ ha1.ins]
theorem eqd_Loose (k : Nat) {S : Sto} {x y : Nat} {fs : List (Str × D)} {c' : Str} (hy : S[y]? = some (.ins c' fs)) (hc : cls90.contains c' = true) (hne : c' ≠ "Loose") : (lv (k + 2)).mc "Loose" "__eq__" [.loc x, .loc y] S = .ok (.bl false) S := by
  rw [lv_mc (k + 1) "Loose" "__eq__" (e := ⟨n_Loose__eq__, p_Loose__eq__, c_Loose__eq__.1, none⟩) (by kernel_rfl)]
  unfold callC runC c_Loose__eq__
  rw [if_pos (by rfl)]
  simp only [show startD n_Loose__eq__.length [D.loc x, D.loc y] = [some (.loc x), some (.loc y)] from rfl]
  rw [exCs, exC]
  have hi := isi_ins (c := "Loose") hy (by decide +kernel) hc
  rw [decide_eq_false hne] at hi
  simp only [evE, evEs, List.getElem?_cons_zero, List.getElem?_cons_succ, Res.bind_ok, s_cls, s_glob, s_attr, gl_Loose, p_isi, hi]
theorem eq_Line (k : Nat) {S : Sto} {x y : Nat} {a1 b1 : D} {p1 q1 : PyData} (hx : S[x]? = some (.ins "Line" [("pieces", a1)])) (hy : S[y]? = some (.ins "Line" [("pieces", b1)])) (ha1 : Fv S a1 p1) (hb1 : Fv S b1 q1) : (lv (k + 2)).mc "Line" "__eq__" [.loc x, .loc y] S = .ok (.bl (p1.eqv q1)) S := by
  rw [lv_mc (k + 1) "Line" "__eq__" (e := ⟨n_Line__eq__, p_Line__eq__, c_Line__eq__.1, none⟩) (by kernel_rfl)]
  unfold callC runC c_Line__eq__
  rw [if_pos (by rfl)]
  simp only [show startD n_Line__eq__.length [D.loc x, D.loc y] = [some (.loc x), some (.loc y)] from rfl]
  rw [exCs, exC]
  have f1 := fld_ins (f := "pieces") (v := a1) hx (by decide +kernel) (by kernel_rfl)
  have g1 := fld_ins (f := "pieces") (v := b1) hy (by decide +kernel) (by kernel_rfl)
  have hi := isi_ins (c := "Line") hy (by decide +kernel) (by decide +kernel)
  rw [show decide (("Line" : Str) = "Line") = true from decide_eq_true rfl] at hi
  simp only [evE, evEs, List.getElem?_cons_zero, List.getElem?_cons_succ, Res.bind_ok, s_cls, s_glob, s_attr, gl_Line, p_isi, hi, f1, g1, eq_py ha1.p11 hb1.p11 ha1.sh hb1.sh _ _ ha1.ins]
theorem eqd_Line (k : Nat) {S : Sto} {x y : Nat} {fs : List (Str × D)} {c' : Str} (hy : S[y]? = some (.ins c' fs)) (hc : cls90.contains c' = true) (hne : c' ≠ "Line") : (lv (k + 2)).mc "Line" "__eq__" [.loc x, .loc y] S = .ok (.bl false) S := by
  rw [lv_mc (k + 1) "Line" "__eq__" (e := ⟨n_Line__eq__, p_Line__eq__, c_Line__eq__.1, none⟩) (by kernel_rfl)]
  unfold callC runC c_Line__eq__
  rw [if_pos (by rfl)]
  simp only [show startD n_Line__eq__.length [D.loc x, D.loc y] = [some (.loc x), some (.loc y)] from rfl]
  rw [exCs, exC]
  have hi := isi_ins (c := "Line") hy (by decide +kernel) hc
  rw [decide_eq_false hne] at hi
  simp only [evE, evEs, List.getElem?_cons_zero, List.getElem?_cons_succ, Res.bind_ok, s_cls, s_glob, s_attr, gl_Line, p_isi, hi]
theorem eq_Design (k : Nat) {S : Sto} {x y : Nat} {a1 a2 b1 b2 : D} {p1 p2 q1 q2 : PyData} (hx : S[x]? = some (.ins "Design" [("cost", a1), ("strengths", a2)])) (hy : S[y]? = some (.ins "Design" [("cost", b1), ("strengths", b2)])) (ha1 : Fv S a1 p1) (hb1 : Fv S b1 q1) (ha2 : Fv S a2 p2) (hb2 : Fv S b2 q2) : (lv (k + 2)).mc "Design" "__eq__" [.loc x, .loc y] S = .ok (.bl ((PyData.tuple [p1, p2]).eqv (.tuple [q1, q2]))) S := by
  rw [lv_mc (k + 1) "Design" "__eq__" (e := ⟨n_Design__eq__, p_Design__eq__, c_Design__eq__.1, none⟩) (by kernel_rfl)]
  unfold callC runC c_Design__eq__
  rw [if_pos (by rfl)]
  simp only [show startD n_Design__eq__.length [D.loc x, D.loc y] = [some (.loc x), some (.loc y)] from rfl]
  rw [exCs, exC]
  have f1 := fld_ins (f := "cost") (v := a1) hx (by decide +kernel) (by kernel_rfl)
  have g1 := fld_ins (f := "cost") (v := b1) hy (by decide +kernel) (by kernel_rfl)
  have f2 := fld_ins (f := "strengths") (v := a2) hx (by decide +kernel) (by kernel_rfl)
  have g2 := fld_ins (f := "strengths") (v := b2) hy (by decide +kernel) (by kernel_rfl)
  have t1 := @tup_le [a1, a2] [some (.loc x), some (.loc y)] S (by simp)
  have t2 := @tup_le [b1, b2] [some (.loc x), some (.loc y)] S (by simp)
  have hi := isi_ins (c := "Design") hy (by decide +kernel) (by decide +kernel)
  rw [show decide (("Design" : Str) = "Design") = true from decide_eq_true rfl] at hi
  simp only [evE, evEs, List.getElem?_cons_zero, List.getElem?_cons_succ, Res.bind_ok, s_cls, s_glob, s_attr, gl_Design, p_isi, hi, f1, g1, f2, g2, t1, t2, eq_py (toPy_tup (mapM_cons ha1.py (mapM_cons ha2.py mapM_nil))) (toPy_tup (mapM_cons hb1.py (mapM_cons hb2.py mapM_nil))) (sh_tup (by simp only [List.mem_cons, List.not_mem_nil, or_false, forall_eq_or_imp, forall_eq]; exact ⟨ha1.g, ha2.g⟩)) (sh_tup (by simp only [List.mem_cons, List.not_mem_nil, or_false, forall_eq_or_imp, forall_eq]; exact ⟨hb1.g, hb2.g⟩)) _ _ rfl]
theorem eqd_Design (k : Nat) {S : Sto} {x y : Nat} {fs : List (Str × D)} {c' : Str} (hy : S[y]? = some (.ins c' fs)) (hc : cls90.contains c' = true) (hne : c' ≠ "Design") : (lv (k + 2)).mc "Design" "__eq__" [.loc x, .loc y] S = .ok (.bl false) S := by
  rw [lv_mc (k + 1) "Design" "__eq__" (e := ⟨n_Design__eq__, p_Design__eq__, c_Design__eq__.1, none⟩) (by kernel_rfl)]
  unfold callC runC c_Design__eq__
  rw [if_pos (by rfl)]
  simp only [show startD n_Design__eq__.length [D.loc x, D.loc y] = [some (.loc x), some (.loc y)] from rfl]
  rw [exCs, exC]
  have hi := isi_ins (c := "Design") hy (by decide +kernel) hc
  rw [decide_eq_false hne] at hi
  simp only [evE, evEs, List.getElem?_cons_zero, List.getElem?_cons_succ, Res.bind_ok, s_cls, s_glob, s_attr, gl_Design, p_isi, hi]
theorem eq_Model (k : Nat) {S : Sto} {x y : Nat} {a1 a2 a3 a4 a5 a6 b1 b2 b3 b4 b5 b6 : D} {p1 p2 p3 p4 p5 p6 q1 q2 q3 q4 q5 q6 : PyData} (hx : S[x]? = some (.ins "Model" [("joints", a1), ("beams", a2), ("marks", a3), ("loads", a4), ("asks", a5), ("prices", a6)])) (hy : S[y]? = some (.ins "Model" [("joints", b1), ("beams", b2), ("marks", b3), ("loads", b4), ("asks", b5), ("prices", b6)])) (ha1 : Fv S a1 p1) (hb1 : Fv S b1 q1) (ha2 : Fv S a2 p2) (hb2 : Fv S b2 q2) (ha3 : Fv S a3 p3) (hb3 : Fv S b3 q3) (ha4 : Fv S a4 p4) (hb4 : Fv S b4 q4) (ha5 : Fv S a5 p5) (hb5 : Fv S b5 q5) (ha6 : Fv S a6 p6) (hb6 : Fv S b6 q6) : (lv (k + 2)).mc "Model" "__eq__" [.loc x, .loc y] S = .ok (.bl ((PyData.tuple [p1, p2, p3, p4, p5, p6]).eqv (.tuple [q1, q2, q3, q4, q5, q6]))) S := by
  rw [lv_mc (k + 1) "Model" "__eq__" (e := ⟨n_Model__eq__, p_Model__eq__, c_Model__eq__.1, none⟩) (by kernel_rfl)]
  unfold callC runC c_Model__eq__
  rw [if_pos (by rfl)]
  simp only [show startD n_Model__eq__.length [D.loc x, D.loc y] = [some (.loc x), some (.loc y)] from rfl]
  rw [exCs, exC]
  have t1 := @tup_le [a1, a2, a3, a4, a5, a6] [some (.loc x), some (.loc y)] S (by simp)
  have t2 := @tup_le [b1, b2, b3, b4, b5, b6] [some (.loc x), some (.loc y)] S (by simp)
  have hi := isi_ins (c := "Model") hy (by decide +kernel) (by decide +kernel)
  rw [show decide (("Model" : Str) = "Model") = true from decide_eq_true rfl] at hi
  simp only [evE, evEs, List.getElem?_cons_zero, List.getElem?_cons_succ, Res.bind_ok, s_cls, s_glob, s_attr, gl_Model, p_isi, hi, s_call, model_key_spec k hx, model_key_spec k hy, eq_py (toPy_tup (mapM_cons ha1.py (mapM_cons ha2.py (mapM_cons ha3.py (mapM_cons ha4.py (mapM_cons ha5.py (mapM_cons ha6.py mapM_nil))))))) (toPy_tup (mapM_cons hb1.py (mapM_cons hb2.py (mapM_cons hb3.py (mapM_cons hb4.py (mapM_cons hb5.py (mapM_cons hb6.py mapM_nil))))))) (sh_tup (by simp only [List.mem_cons, List.not_mem_nil, or_false, forall_eq_or_imp, forall_eq]; exact ⟨ha1.g, ha2.g, ha3.g, ha4.g, ha5.g, ha6.g⟩)) (sh_tup (by simp only [List.mem_cons, List.not_mem_nil, or_false, forall_eq_or_imp, forall_eq]; exact ⟨hb1.g, hb2.g, hb3.g, hb4.g, hb5.g, hb6.g⟩)) _ _ rfl]
theorem eqd_Model (k : Nat) {S : Sto} {x y : Nat} {fs : List (Str × D)} {c' : Str} (hy : S[y]? = some (.ins c' fs)) (hc : cls90.contains c' = true) (hne : c' ≠ "Model") : (lv (k + 2)).mc "Model" "__eq__" [.loc x, .loc y] S = .ok (.bl false) S := by
  rw [lv_mc (k + 1) "Model" "__eq__" (e := ⟨n_Model__eq__, p_Model__eq__, c_Model__eq__.1, none⟩) (by kernel_rfl)]
  unfold callC runC c_Model__eq__
  rw [if_pos (by rfl)]
  simp only [show startD n_Model__eq__.length [D.loc x, D.loc y] = [some (.loc x), some (.loc y)] from rfl]
  rw [exCs, exC]
  have hi := isi_ins (c := "Model") hy (by decide +kernel) hc
  rw [decide_eq_false hne] at hi
  simp only [evE, evEs, List.getElem?_cons_zero, List.getElem?_cons_succ, Res.bind_ok, s_cls, s_glob, s_attr, gl_Model, p_isi, hi]
theorem eq_Paper (k : Nat) {S : Sto} {x y : Nat} {a1 b1 : D} {p1 q1 : PyData} (hx : S[x]? = some (.ins "Paper" [("asked", a1)])) (hy : S[y]? = some (.ins "Paper" [("asked", b1)])) (ha1 : Fv S a1 p1) (hb1 : Fv S b1 q1) : (lv (k + 2)).mc "Paper" "__eq__" [.loc x, .loc y] S = .ok (.bl (p1.eqv q1)) S := by
  rw [lv_mc (k + 1) "Paper" "__eq__" (e := ⟨n_Paper__eq__, p_Paper__eq__, c_Paper__eq__.1, none⟩) (by kernel_rfl)]
  unfold callC runC c_Paper__eq__
  rw [if_pos (by rfl)]
  simp only [show startD n_Paper__eq__.length [D.loc x, D.loc y] = [some (.loc x), some (.loc y)] from rfl]
  rw [exCs, exC]
  have f1 := fld_ins (f := "asked") (v := a1) hx (by decide +kernel) (by kernel_rfl)
  have g1 := fld_ins (f := "asked") (v := b1) hy (by decide +kernel) (by kernel_rfl)
  have hi := isi_ins (c := "Paper") hy (by decide +kernel) (by decide +kernel)
  rw [show decide (("Paper" : Str) = "Paper") = true from decide_eq_true rfl] at hi
  simp only [evE, evEs, List.getElem?_cons_zero, List.getElem?_cons_succ, Res.bind_ok, s_cls, s_glob, s_attr, gl_Paper, p_isi, hi, f1, g1, eq_py ha1.p11 hb1.p11 ha1.sh hb1.sh _ _ ha1.ins]
theorem eqd_Paper (k : Nat) {S : Sto} {x y : Nat} {fs : List (Str × D)} {c' : Str} (hy : S[y]? = some (.ins c' fs)) (hc : cls90.contains c' = true) (hne : c' ≠ "Paper") : (lv (k + 2)).mc "Paper" "__eq__" [.loc x, .loc y] S = .ok (.bl false) S := by
  rw [lv_mc (k + 1) "Paper" "__eq__" (e := ⟨n_Paper__eq__, p_Paper__eq__, c_Paper__eq__.1, none⟩) (by kernel_rfl)]
  unfold callC runC c_Paper__eq__
  rw [if_pos (by rfl)]
  simp only [show startD n_Paper__eq__.length [D.loc x, D.loc y] = [some (.loc x), some (.loc y)] from rfl]
  rw [exCs, exC]
  have hi := isi_ins (c := "Paper") hy (by decide +kernel) hc
  rw [decide_eq_false hne] at hi
  simp only [evE, evEs, List.getElem?_cons_zero, List.getElem?_cons_succ, Res.bind_ok, s_cls, s_glob, s_attr, gl_Paper, p_isi, hi]
theorem ini_step (k : Nat) {S : Sto} {c f : Str} {fs : List (Str × D)} {i : Nat} {v : D} {σ : En} {cs : Cs} (h : Bt S v) (hi : σ[i]? = some (some v)) (h0 : σ[0]? = some (some (.loc S.length))) (hl : decide (fs.length < 100) = true) (ha : attr90 c f = true) :
    exCs (semL none false (lv (k + 1))) 0 (.cons (.asg (.fld (.var 0) f) (.call "copied" (.cons (.var i) .nil))) cs) σ (S ++ [.ins c fs]) = exCs (semL none false (lv (k + 1))) 0 cs σ (S ++ [.ins c (putFD f (cpD S v) fs)]) := by
  rw [exCs, exC]
  simp only [evE, evEs, hi, Res.bind_ok, s_call]
  rw [copied_spec k (bt_new h).1, (bt_new h).2, Res.bind_ok, asT_fld (c := c) (f := f) (fs := fs) (n := S.length) (by rw [evE, h0]) get_last (of_decide_eq_true hl) ha, set_last]
  simp only [Res.bind_ok]
theorem ini_Stresses (k : Nat) {S : Sto} {v1 : D} (h1 : Bt S v1) : (lv (k + 2)).mc "Stresses" "__init__" (.loc S.length :: [v1]) (S ++ [.ins "Stresses" []]) = .ok .non (S ++ [.ins "Stresses" [("rows", cpD S v1)]]) := by
  rw [lv_mc (k + 1) "Stresses" "__init__" (e := ⟨n_Stresses__init__, p_Stresses__init__, c_Stresses__init__.1, none⟩) (by kernel_rfl)]
  unfold callC runC c_Stresses__init__
  rw [if_pos (by rfl)]
  simp only [show startD n_Stresses__init__.length [D.loc S.length, v1] = [some (.loc S.length), some v1] from rfl]
  rw [ini_step k h1 rfl rfl (by kernel_rfl) (by kernel_rfl), exCs]
  kernel_rfl
theorem mq_Stresses (k : Nat) {S : Sto} {v1 : D} (h1 : Bt S v1) : (lv (k + 3)).mq "Stresses" [v1] S = .ok (.loc S.length) (S ++ [.ins "Stresses" [("rows", cpD S v1)]]) := by
  show mkL (lv (k + 2)).mc "Stresses" [v1] S = _
  rw [mkL_eq (ps := ["rows"]) (by decide +kernel) (by decide +kernel) (by decide +kernel)]
  unfold makeC
  rw [List.append_nil, ini_Stresses k h1]
theorem ini_Stills (k : Nat) {S : Sto} {v1 : D} (h1 : Bt S v1) : (lv (k + 2)).mc "Stills" "__init__" (.loc S.length :: [v1]) (S ++ [.ins "Stills" []]) = .ok .non (S ++ [.ins "Stills" [("rows", cpD S v1)]]) := by
  rw [lv_mc (k + 1) "Stills" "__init__" (e := ⟨n_Stills__init__, p_Stills__init__, c_Stills__init__.1, none⟩) (by kernel_rfl)]
  unfold callC runC c_Stills__init__
  rw [if_pos (by rfl)]
  simp only [show startD n_Stills__init__.length [D.loc S.length, v1] = [some (.loc S.length), some v1] from rfl]
  rw [ini_step k h1 rfl rfl (by kernel_rfl) (by kernel_rfl), exCs]
  kernel_rfl
theorem mq_Stills (k : Nat) {S : Sto} {v1 : D} (h1 : Bt S v1) : (lv (k + 3)).mq "Stills" [v1] S = .ok (.loc S.length) (S ++ [.ins "Stills" [("rows", cpD S v1)]]) := by
  show mkL (lv (k + 2)).mc "Stills" [v1] S = _
  rw [mkL_eq (ps := ["rows"]) (by decide +kernel) (by decide +kernel) (by decide +kernel)]
  unfold makeC
  rw [List.append_nil, ini_Stills k h1]
theorem ini_Carries (k : Nat) {S : Sto} {v1 : D} (h1 : Bt S v1) : (lv (k + 2)).mc "Carries" "__init__" (.loc S.length :: [v1]) (S ++ [.ins "Carries" []]) = .ok .non (S ++ [.ins "Carries" [("forces", cpD S v1)]]) := by
  rw [lv_mc (k + 1) "Carries" "__init__" (e := ⟨n_Carries__init__, p_Carries__init__, c_Carries__init__.1, none⟩) (by kernel_rfl)]
  unfold callC runC c_Carries__init__
  rw [if_pos (by rfl)]
  simp only [show startD n_Carries__init__.length [D.loc S.length, v1] = [some (.loc S.length), some v1] from rfl]
  rw [ini_step k h1 rfl rfl (by kernel_rfl) (by kernel_rfl), exCs]
  kernel_rfl
theorem mq_Carries (k : Nat) {S : Sto} {v1 : D} (h1 : Bt S v1) : (lv (k + 3)).mq "Carries" [v1] S = .ok (.loc S.length) (S ++ [.ins "Carries" [("forces", cpD S v1)]]) := by
  show mkL (lv (k + 2)).mc "Carries" [v1] S = _
  rw [mkL_eq (ps := ["forces"]) (by decide +kernel) (by decide +kernel) (by decide +kernel)]
  unfold makeC
  rw [List.append_nil, ini_Carries k h1]
theorem ini_Yields (k : Nat) {S : Sto} {v1 v2 : D} (h1 : Bt S v1) (h2 : Bt S v2) : (lv (k + 2)).mc "Yields" "__init__" (.loc S.length :: [v1, v2]) (S ++ [.ins "Yields" []]) = .ok .non (S ++ [.ins "Yields" [("motion", cpD S v1), ("kinks", cpD S v2)]]) := by
  rw [lv_mc (k + 1) "Yields" "__init__" (e := ⟨n_Yields__init__, p_Yields__init__, c_Yields__init__.1, none⟩) (by kernel_rfl)]
  unfold callC runC c_Yields__init__
  rw [if_pos (by rfl)]
  simp only [show startD n_Yields__init__.length [D.loc S.length, v1, v2] = [some (.loc S.length), some v1, some v2] from rfl]
  rw [ini_step k h1 rfl rfl (by kernel_rfl) (by kernel_rfl), ini_step k h2 rfl rfl (by kernel_rfl) (by kernel_rfl), exCs]
  kernel_rfl
theorem mq_Yields (k : Nat) {S : Sto} {v1 v2 : D} (h1 : Bt S v1) (h2 : Bt S v2) : (lv (k + 3)).mq "Yields" [v1, v2] S = .ok (.loc S.length) (S ++ [.ins "Yields" [("motion", cpD S v1), ("kinks", cpD S v2)]]) := by
  show mkL (lv (k + 2)).mc "Yields" [v1, v2] S = _
  rw [mkL_eq (ps := ["motion", "kinks"]) (by decide +kernel) (by decide +kernel) (by decide +kernel)]
  unfold makeC
  rw [List.append_nil, ini_Yields k h1 h2]
theorem ini_Factor (k : Nat) {S : Sto} {v1 : D} (h1 : Bt S v1) : (lv (k + 2)).mc "Factor" "__init__" (.loc S.length :: [v1]) (S ++ [.ins "Factor" []]) = .ok .non (S ++ [.ins "Factor" [("ratio", cpD S v1)]]) := by
  rw [lv_mc (k + 1) "Factor" "__init__" (e := ⟨n_Factor__init__, p_Factor__init__, c_Factor__init__.1, none⟩) (by kernel_rfl)]
  unfold callC runC c_Factor__init__
  rw [if_pos (by rfl)]
  simp only [show startD n_Factor__init__.length [D.loc S.length, v1] = [some (.loc S.length), some v1] from rfl]
  rw [ini_step k h1 rfl rfl (by kernel_rfl) (by kernel_rfl), exCs]
  kernel_rfl
theorem mq_Factor (k : Nat) {S : Sto} {v1 : D} (h1 : Bt S v1) : (lv (k + 3)).mq "Factor" [v1] S = .ok (.loc S.length) (S ++ [.ins "Factor" [("ratio", cpD S v1)]]) := by
  show mkL (lv (k + 2)).mc "Factor" [v1] S = _
  rw [mkL_eq (ps := ["ratio"]) (by decide +kernel) (by decide +kernel) (by decide +kernel)]
  unfold makeC
  rw [List.append_nil, ini_Factor k h1]
theorem ini_Range (k : Nat) {S : Sto} {v1 v2 : D} (h1 : Bt S v1) (h2 : Bt S v2) : (lv (k + 2)).mc "Range" "__init__" (.loc S.length :: [v1, v2]) (S ++ [.ins "Range" []]) = .ok .non (S ++ [.ins "Range" [("low", cpD S v1), ("high", cpD S v2)]]) := by
  rw [lv_mc (k + 1) "Range" "__init__" (e := ⟨n_Range__init__, p_Range__init__, c_Range__init__.1, none⟩) (by kernel_rfl)]
  unfold callC runC c_Range__init__
  rw [if_pos (by rfl)]
  simp only [show startD n_Range__init__.length [D.loc S.length, v1, v2] = [some (.loc S.length), some v1, some v2] from rfl]
  rw [ini_step k h1 rfl rfl (by kernel_rfl) (by kernel_rfl), ini_step k h2 rfl rfl (by kernel_rfl) (by kernel_rfl), exCs]
  kernel_rfl
theorem mq_Range (k : Nat) {S : Sto} {v1 v2 : D} (h1 : Bt S v1) (h2 : Bt S v2) : (lv (k + 3)).mq "Range" [v1, v2] S = .ok (.loc S.length) (S ++ [.ins "Range" [("low", cpD S v1), ("high", cpD S v2)]]) := by
  show mkL (lv (k + 2)).mc "Range" [v1, v2] S = _
  rw [mkL_eq (ps := ["low", "high"]) (by decide +kernel) (by decide +kernel) (by decide +kernel)]
  unfold makeC
  rw [List.append_nil, ini_Range k h1 h2]
theorem ini_Moves (k : Nat) {S : Sto} {v1 : D} (h1 : Bt S v1) : (lv (k + 2)).mc "Moves" "__init__" (.loc S.length :: [v1]) (S ++ [.ins "Moves" []]) = .ok .non (S ++ [.ins "Moves" [("forces", cpD S v1)]]) := by
  rw [lv_mc (k + 1) "Moves" "__init__" (e := ⟨n_Moves__init__, p_Moves__init__, c_Moves__init__.1, none⟩) (by kernel_rfl)]
  unfold callC runC c_Moves__init__
  rw [if_pos (by rfl)]
  simp only [show startD n_Moves__init__.length [D.loc S.length, v1] = [some (.loc S.length), some v1] from rfl]
  rw [ini_step k h1 rfl rfl (by kernel_rfl) (by kernel_rfl), exCs]
  kernel_rfl
theorem mq_Moves (k : Nat) {S : Sto} {v1 : D} (h1 : Bt S v1) : (lv (k + 3)).mq "Moves" [v1] S = .ok (.loc S.length) (S ++ [.ins "Moves" [("forces", cpD S v1)]]) := by
  show mkL (lv (k + 2)).mc "Moves" [v1] S = _
  rw [mkL_eq (ps := ["forces"]) (by decide +kernel) (by decide +kernel) (by decide +kernel)]
  unfold makeC
  rw [List.append_nil, ini_Moves k h1]
theorem ini_Gives (k : Nat) {S : Sto} {v1 : D} (h1 : Bt S v1) : (lv (k + 2)).mc "Gives" "__init__" (.loc S.length :: [v1]) (S ++ [.ins "Gives" []]) = .ok .non (S ++ [.ins "Gives" [("motion", cpD S v1)]]) := by
  rw [lv_mc (k + 1) "Gives" "__init__" (e := ⟨n_Gives__init__, p_Gives__init__, c_Gives__init__.1, none⟩) (by kernel_rfl)]
  unfold callC runC c_Gives__init__
  rw [if_pos (by rfl)]
  simp only [show startD n_Gives__init__.length [D.loc S.length, v1] = [some (.loc S.length), some v1] from rfl]
  rw [ini_step k h1 rfl rfl (by kernel_rfl) (by kernel_rfl), exCs]
  kernel_rfl
theorem mq_Gives (k : Nat) {S : Sto} {v1 : D} (h1 : Bt S v1) : (lv (k + 3)).mq "Gives" [v1] S = .ok (.loc S.length) (S ++ [.ins "Gives" [("motion", cpD S v1)]]) := by
  show mkL (lv (k + 2)).mc "Gives" [v1] S = _
  rw [mkL_eq (ps := ["motion"]) (by decide +kernel) (by decide +kernel) (by decide +kernel)]
  unfold makeC
  rw [List.append_nil, ini_Gives k h1]
theorem ini_Moment (k : Nat) {S : Sto} {v1 : D} (h1 : Bt S v1) : (lv (k + 2)).mc "Moment" "__init__" (.loc S.length :: [v1]) (S ++ [.ins "Moment" []]) = .ok .non (S ++ [.ins "Moment" [("ratio", cpD S v1)]]) := by
  rw [lv_mc (k + 1) "Moment" "__init__" (e := ⟨n_Moment__init__, p_Moment__init__, c_Moment__init__.1, none⟩) (by kernel_rfl)]
  unfold callC runC c_Moment__init__
  rw [if_pos (by rfl)]
  simp only [show startD n_Moment__init__.length [D.loc S.length, v1] = [some (.loc S.length), some v1] from rfl]
  rw [ini_step k h1 rfl rfl (by kernel_rfl) (by kernel_rfl), exCs]
  kernel_rfl
theorem mq_Moment (k : Nat) {S : Sto} {v1 : D} (h1 : Bt S v1) : (lv (k + 3)).mq "Moment" [v1] S = .ok (.loc S.length) (S ++ [.ins "Moment" [("ratio", cpD S v1)]]) := by
  show mkL (lv (k + 2)).mc "Moment" [v1] S = _
  rw [mkL_eq (ps := ["ratio"]) (by decide +kernel) (by decide +kernel) (by decide +kernel)]
  unfold makeC
  rw [List.append_nil, ini_Moment k h1]
theorem ini_Bends (k : Nat) {S : Sto} {v1 : D} (h1 : Bt S v1) : (lv (k + 2)).mc "Bends" "__init__" (.loc S.length :: [v1]) (S ++ [.ins "Bends" []]) = .ok .non (S ++ [.ins "Bends" [("ratio", cpD S v1)]]) := by
  rw [lv_mc (k + 1) "Bends" "__init__" (e := ⟨n_Bends__init__, p_Bends__init__, c_Bends__init__.1, none⟩) (by kernel_rfl)]
  unfold callC runC c_Bends__init__
  rw [if_pos (by rfl)]
  simp only [show startD n_Bends__init__.length [D.loc S.length, v1] = [some (.loc S.length), some v1] from rfl]
  rw [ini_step k h1 rfl rfl (by kernel_rfl) (by kernel_rfl), exCs]
  kernel_rfl
theorem mq_Bends (k : Nat) {S : Sto} {v1 : D} (h1 : Bt S v1) : (lv (k + 3)).mq "Bends" [v1] S = .ok (.loc S.length) (S ++ [.ins "Bends" [("ratio", cpD S v1)]]) := by
  show mkL (lv (k + 2)).mc "Bends" [v1] S = _
  rw [mkL_eq (ps := ["ratio"]) (by decide +kernel) (by decide +kernel) (by decide +kernel)]
  unfold makeC
  rw [List.append_nil, ini_Bends k h1]
theorem ini_Loose (k : Nat) {S : Sto} {v1 : D} (h1 : Bt S v1) : (lv (k + 2)).mc "Loose" "__init__" (.loc S.length :: [v1]) (S ++ [.ins "Loose" []]) = .ok .non (S ++ [.ins "Loose" [("motion", cpD S v1)]]) := by
  rw [lv_mc (k + 1) "Loose" "__init__" (e := ⟨n_Loose__init__, p_Loose__init__, c_Loose__init__.1, none⟩) (by kernel_rfl)]
  unfold callC runC c_Loose__init__
  rw [if_pos (by rfl)]
  simp only [show startD n_Loose__init__.length [D.loc S.length, v1] = [some (.loc S.length), some v1] from rfl]
  rw [ini_step k h1 rfl rfl (by kernel_rfl) (by kernel_rfl), exCs]
  kernel_rfl
theorem mq_Loose (k : Nat) {S : Sto} {v1 : D} (h1 : Bt S v1) : (lv (k + 3)).mq "Loose" [v1] S = .ok (.loc S.length) (S ++ [.ins "Loose" [("motion", cpD S v1)]]) := by
  show mkL (lv (k + 2)).mc "Loose" [v1] S = _
  rw [mkL_eq (ps := ["motion"]) (by decide +kernel) (by decide +kernel) (by decide +kernel)]
  unfold makeC
  rw [List.append_nil, ini_Loose k h1]
theorem ini_Line (k : Nat) {S : Sto} {v1 : D} (h1 : Bt S v1) : (lv (k + 2)).mc "Line" "__init__" (.loc S.length :: [v1]) (S ++ [.ins "Line" []]) = .ok .non (S ++ [.ins "Line" [("pieces", cpD S v1)]]) := by
  rw [lv_mc (k + 1) "Line" "__init__" (e := ⟨n_Line__init__, p_Line__init__, c_Line__init__.1, none⟩) (by kernel_rfl)]
  unfold callC runC c_Line__init__
  rw [if_pos (by rfl)]
  simp only [show startD n_Line__init__.length [D.loc S.length, v1] = [some (.loc S.length), some v1] from rfl]
  rw [ini_step k h1 rfl rfl (by kernel_rfl) (by kernel_rfl), exCs]
  kernel_rfl
theorem mq_Line (k : Nat) {S : Sto} {v1 : D} (h1 : Bt S v1) : (lv (k + 3)).mq "Line" [v1] S = .ok (.loc S.length) (S ++ [.ins "Line" [("pieces", cpD S v1)]]) := by
  show mkL (lv (k + 2)).mc "Line" [v1] S = _
  rw [mkL_eq (ps := ["pieces"]) (by decide +kernel) (by decide +kernel) (by decide +kernel)]
  unfold makeC
  rw [List.append_nil, ini_Line k h1]
theorem ini_Design (k : Nat) {S : Sto} {v1 v2 : D} (h1 : Bt S v1) (h2 : Bt S v2) : (lv (k + 2)).mc "Design" "__init__" (.loc S.length :: [v1, v2]) (S ++ [.ins "Design" []]) = .ok .non (S ++ [.ins "Design" [("cost", cpD S v1), ("strengths", cpD S v2)]]) := by
  rw [lv_mc (k + 1) "Design" "__init__" (e := ⟨n_Design__init__, p_Design__init__, c_Design__init__.1, none⟩) (by kernel_rfl)]
  unfold callC runC c_Design__init__
  rw [if_pos (by rfl)]
  simp only [show startD n_Design__init__.length [D.loc S.length, v1, v2] = [some (.loc S.length), some v1, some v2] from rfl]
  rw [ini_step k h1 rfl rfl (by kernel_rfl) (by kernel_rfl), ini_step k h2 rfl rfl (by kernel_rfl) (by kernel_rfl), exCs]
  kernel_rfl
theorem mq_Design (k : Nat) {S : Sto} {v1 v2 : D} (h1 : Bt S v1) (h2 : Bt S v2) : (lv (k + 3)).mq "Design" [v1, v2] S = .ok (.loc S.length) (S ++ [.ins "Design" [("cost", cpD S v1), ("strengths", cpD S v2)]]) := by
  show mkL (lv (k + 2)).mc "Design" [v1, v2] S = _
  rw [mkL_eq (ps := ["cost", "strengths"]) (by decide +kernel) (by decide +kernel) (by decide +kernel)]
  unfold makeC
  rw [List.append_nil, ini_Design k h1 h2]
theorem ini_Model (k : Nat) {S : Sto} {v1 v2 v3 v4 v5 v6 : D} (h1 : Bt S v1) (h2 : Bt S v2) (h3 : Bt S v3) (h4 : Bt S v4) (h5 : Bt S v5) (h6 : Bt S v6) : (lv (k + 2)).mc "Model" "__init__" (.loc S.length :: [v1, v2, v3, v4, v5, v6]) (S ++ [.ins "Model" []]) = .ok .non (S ++ [.ins "Model" [("joints", cpD S v1), ("beams", cpD S v2), ("marks", cpD S v3), ("loads", cpD S v4), ("asks", cpD S v5), ("prices", cpD S v6)]]) := by
  rw [lv_mc (k + 1) "Model" "__init__" (e := ⟨n_Model__init__, p_Model__init__, c_Model__init__.1, none⟩) (by kernel_rfl)]
  unfold callC runC c_Model__init__
  rw [if_pos (by rfl)]
  simp only [show startD n_Model__init__.length [D.loc S.length, v1, v2, v3, v4, v5, v6] = [some (.loc S.length), some v1, some v2, some v3, some v4, some v5, some v6] from rfl]
  rw [ini_step k h1 rfl rfl (by kernel_rfl) (by kernel_rfl), ini_step k h2 rfl rfl (by kernel_rfl) (by kernel_rfl), ini_step k h3 rfl rfl (by kernel_rfl) (by kernel_rfl), ini_step k h4 rfl rfl (by kernel_rfl) (by kernel_rfl), ini_step k h5 rfl rfl (by kernel_rfl) (by kernel_rfl), ini_step k h6 rfl rfl (by kernel_rfl) (by kernel_rfl), exCs]
  kernel_rfl
theorem ini_Paper (k : Nat) {S : Sto} {v1 : D} (h1 : Bt S v1) : (lv (k + 2)).mc "Paper" "__init__" (.loc S.length :: [v1]) (S ++ [.ins "Paper" []]) = .ok .non (S ++ [.ins "Paper" [("asked", cpD S v1)]]) := by
  rw [lv_mc (k + 1) "Paper" "__init__" (e := ⟨n_Paper__init__, p_Paper__init__, c_Paper__init__.1, none⟩) (by kernel_rfl)]
  unfold callC runC c_Paper__init__
  rw [if_pos (by rfl)]
  simp only [show startD n_Paper__init__.length [D.loc S.length, v1] = [some (.loc S.length), some v1] from rfl]
  rw [ini_step k h1 rfl rfl (by kernel_rfl) (by kernel_rfl), exCs]
  kernel_rfl
theorem mq_Paper (k : Nat) {S : Sto} {v1 : D} (h1 : Bt S v1) : (lv (k + 3)).mq "Paper" [v1] S = .ok (.loc S.length) (S ++ [.ins "Paper" [("asked", cpD S v1)]]) := by
  show mkL (lv (k + 2)).mc "Paper" [v1] S = _
  rw [mkL_eq (ps := ["asked"]) (by decide +kernel) (by decide +kernel) (by decide +kernel)]
  unfold makeC
  rw [List.append_nil, ini_Paper k h1]
end K90

namespace K90
open PySem PySem.Spec PyProof.Rows L2 PV
/-! ### making, and the rows -/
theorem bt_app {v : D} : ∀ {T S : Sto}, Bt S v → Bt (S ++ T) v ∧ cpD (S ++ T) v = cpD S v
  | [], S, h => by rw [List.append_nil]; exact ⟨h, rfl⟩
  | a :: T, S, h => by
    obtain ⟨h1, h2⟩ := bt_new (a := a) h
    obtain ⟨h3, h4⟩ := bt_app (T := T) h1
    rw [show S ++ a :: T = S ++ [a] ++ T by simp]
    exact ⟨h3, h4.trans h2⟩
theorem get_app {S T : Sto} {i : Nat} : (S ++ T)[S.length + i]? = T[i]? := by
  rw [List.getElem?_append_right (Nat.le_add_right _ _)]
  simp
theorem set_app {S T : Sto} {i : Nat} {o : O} : (S ++ T).set (S.length + i) o = S ++ T.set i o := by
  rw [List.set_append_right _ _ (Nat.le_add_right _ _)]
  simp
/-- a class's instances, made anywhere beyond S -/
def MkS (M : Sem) (S : Sto) (c : Str) (vs : List D) (fs : List (Str × D)) : Prop := ∀ T, M.make c vs (S ++ T) = .ok (.loc (S ++ T).length) (S ++ T ++ [.ins c fs])
def EvM (M : Sem) (σ : En) (S : Sto) (e : E) (c : Str) (fs : List (Str × D)) : Prop := ∀ T, evE M e σ (S ++ T) = .ok (.loc (S ++ T).length) (S ++ T ++ [.ins c fs])
theorem ev_make {M : Sem} {σ : En} {S : Sto} {c : Str} {es : Es} {vs : List D} {fs : List (Str × D)} (h : ∀ S, evEs M es σ S = .ok vs S) (m : MkS M S c vs fs) : EvM M σ S (.make c es) c fs := fun T => by
  rw [evE, h, Res.bind_ok]
  exact m T
theorem ev_makeK {M : Sem} {σ : En} {S : Sto} {c : Str} {es : Es} {n : Nat} {perm : List Nat} {us vs : List D} {fs : List (Str × D)} (h : ∀ S, evEs M es σ S = .ok us S) (hn : us.length = n) (hp : perm.filterMap (fun i => us[i]?) = vs) (m : MkS M S c vs fs) : EvM M σ S (.makeK c es n perm) c fs := fun T => by
  rw [evE, h, Res.bind_ok]
  rw [if_pos hn, hp]
  exact m T
def rowD (n : Nat) (d3 d4 : D) : D := .tup [.loc n, .loc (n + 1), d3, d4]
theorem row_ev {M : Sem} {σ : En} {S T : Sto} {e1 e2 e3 e4 : E} {c : Str} {fs : List (Str × D)} {d3 d4 : D} (h1 : EvM M σ S e1 c fs) (h2 : EvM M σ S e2 c fs) (h3 : ∀ S, evE M e3 σ S = .ok d3 S) (h4 : ∀ S, evE M e4 σ S = .ok d4 S) :
    evE M (.tup (.cons e1 (.cons e2 (.cons e3 (.cons e4 .nil))))) σ (S ++ T) = .ok (rowD (S.length + T.length) d3 d4) (S ++ (T ++ [.ins c fs, .ins c fs])) := by
  rw [evE]
  simp only [evEs]
  rw [h1 T, Res.bind_ok]
  have e := h2 (T ++ [.ins c fs])
  rw [← List.append_assoc] at e
  rw [e, Res.bind_ok, h3, Res.bind_ok, h4, Res.bind_ok]
  simp only [Res.bind_ok]
  rw [if_pos (by simp [mostLen])]
  simp [rowD, Nat.add_assoc]
theorem row_first {M : Sem} {σ : En} {S : Sto} {e1 e2 e3 e4 : E} {c : Str} {fs : List (Str × D)} {d3 d4 : D} {cs : Cs} (h1 : EvM M σ S e1 c fs) (h2 : EvM M σ S e2 c fs) (h3 : ∀ S, evE M e3 σ S = .ok d3 S) (h4 : ∀ S, evE M e4 σ S = .ok d4 S) (hl : 4 < σ.length) :
    exCs M 0 (.cons (.asg (.var 4) (.lst (.cons (.tup (.cons e1 (.cons e2 (.cons e3 (.cons e4 .nil))))) .nil))) cs) σ S = exCs M 0 cs (σ.set 4 (some (.loc (S.length + 2)))) (S ++ [.ins c fs, .ins c fs, .lst [rowD S.length d3 d4]]) := by
  have e := row_ev (T := []) h1 h2 h3 h4
  rw [List.append_nil] at e
  rw [exCs, exC, evE]
  simp only [evEs]
  rw [e]
  simp only [Res.bind_ok]
  rw [if_pos (by simp [mostLen])]
  unfold newO
  simp only [Res.bind_ok]
  rw [asT, if_pos hl]
  simp only [Res.bind_ok]
  simp
theorem row_step {M : Sem} {σ : En} {S T : Sto} {e1 e2 e3 e4 : E} {c : Str} {fs : List (Str × D)} {d3 d4 : D} {cs : Cs} {r : Nat} {ds : List D} (hr : σ[4]? = some (some (.loc (S.length + r)))) (ht : T[r]? = some (.lst ds)) (hd : decide (ds.length < 100) = true) (h1 : EvM M σ S e1 c fs) (h2 : EvM M σ S e2 c fs) (h3 : ∀ S, evE M e3 σ S = .ok d3 S) (h4 : ∀ S, evE M e4 σ S = .ok d4 S) :
    exCs M 0 (.cons (.expr (.mth .append (.var 4) (.cons (.tup (.cons e1 (.cons e2 (.cons e3 (.cons e4 .nil))))) .nil))) cs) σ (S ++ T) = exCs M 0 cs σ (S ++ (T.set r (.lst (ds ++ [rowD (S.length + T.length) d3 d4])) ++ [.ins c fs, .ins c fs])) := by
  have hlt : r < T.length := (List.getElem?_eq_some_iff.mp ht).1
  rw [exCs, exC, evE, evE, hr]
  simp only [Res.bind_ok]
  rw [if_pos (by unfold mthOk; dsimp only; rw [get_app, ht])]
  simp only [evEs]
  rw [row_ev h1 h2 h3 h4]
  simp only [Res.bind_ok]
  have g : (S ++ (T ++ [.ins c fs, .ins c fs]))[S.length + r]? = some (.lst ds) := by
    rw [get_app, List.getElem?_append_left hlt, ht]
  unfold mthD
  dsimp only
  unfold appendM
  dsimp only
  rw [g]
  dsimp only
  rw [if_pos (Nat.lt_of_lt_of_le (of_decide_eq_true hd) (by decide)), set_app, List.set_append_left _ _ hlt]
  simp only [Res.bind_ok]
theorem mks_Stresses {hh : Option Str} {r : Bool} (k : Nat) {S : Sto} {v1 : D} (h1 : Bt S v1) : MkS (semL hh r (lv (k + 3))) S "Stresses" [v1] [("rows", cpD S v1)] := fun T => by
  have b1 := bt_app (T := T) h1
  show (lv (k + 3)).mq "Stresses" [v1] (S ++ T) = _
  rw [mq_Stresses k b1.1, b1.2]
theorem mks_Stills {hh : Option Str} {r : Bool} (k : Nat) {S : Sto} {v1 : D} (h1 : Bt S v1) : MkS (semL hh r (lv (k + 3))) S "Stills" [v1] [("rows", cpD S v1)] := fun T => by
  have b1 := bt_app (T := T) h1
  show (lv (k + 3)).mq "Stills" [v1] (S ++ T) = _
  rw [mq_Stills k b1.1, b1.2]
theorem mks_Carries {hh : Option Str} {r : Bool} (k : Nat) {S : Sto} {v1 : D} (h1 : Bt S v1) : MkS (semL hh r (lv (k + 3))) S "Carries" [v1] [("forces", cpD S v1)] := fun T => by
  have b1 := bt_app (T := T) h1
  show (lv (k + 3)).mq "Carries" [v1] (S ++ T) = _
  rw [mq_Carries k b1.1, b1.2]
theorem mks_Yields {hh : Option Str} {r : Bool} (k : Nat) {S : Sto} {v1 v2 : D} (h1 : Bt S v1) (h2 : Bt S v2) : MkS (semL hh r (lv (k + 3))) S "Yields" [v1, v2] [("motion", cpD S v1), ("kinks", cpD S v2)] := fun T => by
  have b1 := bt_app (T := T) h1
  have b2 := bt_app (T := T) h2
  show (lv (k + 3)).mq "Yields" [v1, v2] (S ++ T) = _
  rw [mq_Yields k b1.1 b2.1, b1.2, b2.2]
theorem mks_Factor {hh : Option Str} {r : Bool} (k : Nat) {S : Sto} {v1 : D} (h1 : Bt S v1) : MkS (semL hh r (lv (k + 3))) S "Factor" [v1] [("ratio", cpD S v1)] := fun T => by
  have b1 := bt_app (T := T) h1
  show (lv (k + 3)).mq "Factor" [v1] (S ++ T) = _
  rw [mq_Factor k b1.1, b1.2]
theorem mks_Range {hh : Option Str} {r : Bool} (k : Nat) {S : Sto} {v1 v2 : D} (h1 : Bt S v1) (h2 : Bt S v2) : MkS (semL hh r (lv (k + 3))) S "Range" [v1, v2] [("low", cpD S v1), ("high", cpD S v2)] := fun T => by
  have b1 := bt_app (T := T) h1
  have b2 := bt_app (T := T) h2
  show (lv (k + 3)).mq "Range" [v1, v2] (S ++ T) = _
  rw [mq_Range k b1.1 b2.1, b1.2, b2.2]
theorem mks_Moves {hh : Option Str} {r : Bool} (k : Nat) {S : Sto} {v1 : D} (h1 : Bt S v1) : MkS (semL hh r (lv (k + 3))) S "Moves" [v1] [("forces", cpD S v1)] := fun T => by
  have b1 := bt_app (T := T) h1
  show (lv (k + 3)).mq "Moves" [v1] (S ++ T) = _
  rw [mq_Moves k b1.1, b1.2]
theorem mks_Gives {hh : Option Str} {r : Bool} (k : Nat) {S : Sto} {v1 : D} (h1 : Bt S v1) : MkS (semL hh r (lv (k + 3))) S "Gives" [v1] [("motion", cpD S v1)] := fun T => by
  have b1 := bt_app (T := T) h1
  show (lv (k + 3)).mq "Gives" [v1] (S ++ T) = _
  rw [mq_Gives k b1.1, b1.2]
theorem mks_Moment {hh : Option Str} {r : Bool} (k : Nat) {S : Sto} {v1 : D} (h1 : Bt S v1) : MkS (semL hh r (lv (k + 3))) S "Moment" [v1] [("ratio", cpD S v1)] := fun T => by
  have b1 := bt_app (T := T) h1
  show (lv (k + 3)).mq "Moment" [v1] (S ++ T) = _
  rw [mq_Moment k b1.1, b1.2]
theorem mks_Bends {hh : Option Str} {r : Bool} (k : Nat) {S : Sto} {v1 : D} (h1 : Bt S v1) : MkS (semL hh r (lv (k + 3))) S "Bends" [v1] [("ratio", cpD S v1)] := fun T => by
  have b1 := bt_app (T := T) h1
  show (lv (k + 3)).mq "Bends" [v1] (S ++ T) = _
  rw [mq_Bends k b1.1, b1.2]
theorem mks_Loose {hh : Option Str} {r : Bool} (k : Nat) {S : Sto} {v1 : D} (h1 : Bt S v1) : MkS (semL hh r (lv (k + 3))) S "Loose" [v1] [("motion", cpD S v1)] := fun T => by
  have b1 := bt_app (T := T) h1
  show (lv (k + 3)).mq "Loose" [v1] (S ++ T) = _
  rw [mq_Loose k b1.1, b1.2]
theorem mks_Line {hh : Option Str} {r : Bool} (k : Nat) {S : Sto} {v1 : D} (h1 : Bt S v1) : MkS (semL hh r (lv (k + 3))) S "Line" [v1] [("pieces", cpD S v1)] := fun T => by
  have b1 := bt_app (T := T) h1
  show (lv (k + 3)).mq "Line" [v1] (S ++ T) = _
  rw [mq_Line k b1.1, b1.2]
theorem mks_Design {hh : Option Str} {r : Bool} (k : Nat) {S : Sto} {v1 v2 : D} (h1 : Bt S v1) (h2 : Bt S v2) : MkS (semL hh r (lv (k + 3))) S "Design" [v1, v2] [("cost", cpD S v1), ("strengths", cpD S v2)] := fun T => by
  have b1 := bt_app (T := T) h1
  have b2 := bt_app (T := T) h2
  show (lv (k + 3)).mq "Design" [v1, v2] (S ++ T) = _
  rw [mq_Design k b1.1 b2.1, b1.2, b2.2]
theorem mks_Paper {hh : Option Str} {r : Bool} (k : Nat) {S : Sto} {v1 : D} (h1 : Bt S v1) : MkS (semL hh r (lv (k + 3))) S "Paper" [v1] [("asked", cpD S v1)] := fun T => by
  have b1 := bt_app (T := T) h1
  show (lv (k + 3)).mq "Paper" [v1] (S ++ T) = _
  rw [mq_Paper k b1.1, b1.2]
theorem mks_Endless {hh : Option Str} {r : Bool} (k : Nat) {S : Sto} : MkS (semL hh r (lv (k + 3))) S "Endless" [] [] := fun T => by
  show mkL (lv (k + 2)).mc "Endless" [] (S ++ T) = _
  unfold mkL
  rw [if_pos rfl]
  rfl
theorem bt_nil {S : Sto} : Bt S (.tup []) := ⟨"tuple", rfl, by decide, rfl⟩
theorem mks_Model5 {hh : Option Str} {r : Bool} (k : Nat) {S : Sto} {v1 v2 v3 v4 v5 : D} (h1 : Bt S v1) (h2 : Bt S v2) (h3 : Bt S v3) (h4 : Bt S v4) (h5 : Bt S v5) : MkS (semL hh r (lv (k + 3))) S "Model" [v1, v2, v3, v4, v5] [("joints", cpD S v1), ("beams", cpD S v2), ("marks", cpD S v3), ("loads", cpD S v4), ("asks", cpD S v5), ("prices", .tup [])] := fun T => by
  have b1 := bt_app (T := T) h1
  have b2 := bt_app (T := T) h2
  have b3 := bt_app (T := T) h3
  have b4 := bt_app (T := T) h4
  have b5 := bt_app (T := T) h5
  show mkL (lv (k + 2)).mc "Model" [v1, v2, v3, v4, v5] (S ++ T) = _
  unfold mkL
  rw [if_neg (by decide +kernel), show par90.lookup ("Model" : Str) = some (["joints", "beams", "marks", "loads", "asks", "prices"] : List Str) from by kernel_rfl]
  dsimp only
  rw [show (if List.length [v1, v2, v3, v4, v5] < List.length [("joints" : Str), ("beams" : Str), ("marks" : Str), ("loads" : Str), ("asks" : Str), ("prices" : Str)] then dfl90 "Model" else []) = [.tup []] from by kernel_rfl]
  unfold makeC
  simp only [List.cons_append, List.nil_append]
  rw [ini_Model k b1.1 b2.1 b3.1 b4.1 b5.1 bt_nil, b1.2, b2.2, b3.2, b4.2, b5.2]
  rfl
theorem mks_Model6 {hh : Option Str} {r : Bool} (k : Nat) {S : Sto} {v1 v2 v3 v4 v5 v6 : D} (h1 : Bt S v1) (h2 : Bt S v2) (h3 : Bt S v3) (h4 : Bt S v4) (h5 : Bt S v5) (h6 : Bt S v6) : MkS (semL hh r (lv (k + 3))) S "Model" [v1, v2, v3, v4, v5, v6] [("joints", cpD S v1), ("beams", cpD S v2), ("marks", cpD S v3), ("loads", cpD S v4), ("asks", cpD S v5), ("prices", cpD S v6)] := fun T => by
  have b1 := bt_app (T := T) h1
  have b2 := bt_app (T := T) h2
  have b3 := bt_app (T := T) h3
  have b4 := bt_app (T := T) h4
  have b5 := bt_app (T := T) h5
  have b6 := bt_app (T := T) h6
  show mkL (lv (k + 2)).mc "Model" [v1, v2, v3, v4, v5, v6] (S ++ T) = _
  unfold mkL
  rw [if_neg (by decide +kernel), show par90.lookup ("Model" : Str) = some (["joints", "beams", "marks", "loads", "asks", "prices"] : List Str) from by kernel_rfl]
  dsimp only
  rw [show (if List.length [v1, v2, v3, v4, v5, v6] < List.length [("joints" : Str), ("beams" : Str), ("marks" : Str), ("loads" : Str), ("asks" : Str), ("prices" : Str)] then dfl90 "Model" else []) = [] from by kernel_rfl]
  unfold makeC
  simp only [List.cons_append, List.nil_append]
  rw [ini_Model k b1.1 b2.1 b3.1 b4.1 b5.1 b6.1, b1.2, b2.2, b3.2, b4.2, b5.2, b6.2]
theorem lam_Stresses (k : Nat) {S : Sto} {x : Nat} {a1 : D} (hx : S[x]? = some (.ins "Stresses" [("rows", a1)])) : (lv (k + 1)).lm 0 [.loc x] S = .ok (.tup [a1]) S := by
  show lamC (semL none false (lv k)) 1 1 l_0.1 [.loc x] S = _
  unfold lamC l_0
  rw [if_pos (by rfl)]
  simp only [show startD 1 [D.loc x] = [some (.loc x)] from rfl]
  have f1 := fld_ins (f := "rows") (v := a1) hx (by decide +kernel) (by kernel_rfl)
  have t := @tup_le [a1] [some (.loc x)] S (by simp)
  simp only [evE, evEs, List.getElem?_cons_zero, Res.bind_ok, s_attr, f1]
  rfl
theorem lam_Stills (k : Nat) {S : Sto} {x : Nat} {a1 : D} (hx : S[x]? = some (.ins "Stills" [("rows", a1)])) : (lv (k + 1)).lm 1 [.loc x] S = .ok (.tup [a1]) S := by
  show lamC (semL none false (lv k)) 1 1 l_1.1 [.loc x] S = _
  unfold lamC l_1
  rw [if_pos (by rfl)]
  simp only [show startD 1 [D.loc x] = [some (.loc x)] from rfl]
  have f1 := fld_ins (f := "rows") (v := a1) hx (by decide +kernel) (by kernel_rfl)
  have t := @tup_le [a1] [some (.loc x)] S (by simp)
  simp only [evE, evEs, List.getElem?_cons_zero, Res.bind_ok, s_attr, f1]
  rfl
theorem lam_Carries (k : Nat) {S : Sto} {x : Nat} {a1 : D} (hx : S[x]? = some (.ins "Carries" [("forces", a1)])) : (lv (k + 1)).lm 2 [.loc x] S = .ok (.tup [a1]) S := by
  show lamC (semL none false (lv k)) 1 1 l_2.1 [.loc x] S = _
  unfold lamC l_2
  rw [if_pos (by rfl)]
  simp only [show startD 1 [D.loc x] = [some (.loc x)] from rfl]
  have f1 := fld_ins (f := "forces") (v := a1) hx (by decide +kernel) (by kernel_rfl)
  have t := @tup_le [a1] [some (.loc x)] S (by simp)
  simp only [evE, evEs, List.getElem?_cons_zero, Res.bind_ok, s_attr, f1]
  rfl
theorem lam_Yields (k : Nat) {S : Sto} {x : Nat} {a1 a2 : D} (hx : S[x]? = some (.ins "Yields" [("motion", a1), ("kinks", a2)])) : (lv (k + 1)).lm 3 [.loc x] S = .ok (.tup [a1, a2]) S := by
  show lamC (semL none false (lv k)) 1 1 l_3.1 [.loc x] S = _
  unfold lamC l_3
  rw [if_pos (by rfl)]
  simp only [show startD 1 [D.loc x] = [some (.loc x)] from rfl]
  have f1 := fld_ins (f := "motion") (v := a1) hx (by decide +kernel) (by kernel_rfl)
  have f2 := fld_ins (f := "kinks") (v := a2) hx (by decide +kernel) (by kernel_rfl)
  have t := @tup_le [a1, a2] [some (.loc x)] S (by simp)
  simp only [evE, evEs, List.getElem?_cons_zero, Res.bind_ok, s_attr, f1, f2]
  rfl
theorem lam_Factor (k : Nat) {S : Sto} {x : Nat} {a1 : D} (hx : S[x]? = some (.ins "Factor" [("ratio", a1)])) : (lv (k + 1)).lm 4 [.loc x] S = .ok (.tup [a1]) S := by
  show lamC (semL none false (lv k)) 1 1 l_4.1 [.loc x] S = _
  unfold lamC l_4
  rw [if_pos (by rfl)]
  simp only [show startD 1 [D.loc x] = [some (.loc x)] from rfl]
  have f1 := fld_ins (f := "ratio") (v := a1) hx (by decide +kernel) (by kernel_rfl)
  have t := @tup_le [a1] [some (.loc x)] S (by simp)
  simp only [evE, evEs, List.getElem?_cons_zero, Res.bind_ok, s_attr, f1]
  rfl
theorem lam_Range (k : Nat) {S : Sto} {x : Nat} {a1 a2 : D} (hx : S[x]? = some (.ins "Range" [("low", a1), ("high", a2)])) : (lv (k + 1)).lm 5 [.loc x] S = .ok (.tup [a1, a2]) S := by
  show lamC (semL none false (lv k)) 1 1 l_5.1 [.loc x] S = _
  unfold lamC l_5
  rw [if_pos (by rfl)]
  simp only [show startD 1 [D.loc x] = [some (.loc x)] from rfl]
  have f1 := fld_ins (f := "low") (v := a1) hx (by decide +kernel) (by kernel_rfl)
  have f2 := fld_ins (f := "high") (v := a2) hx (by decide +kernel) (by kernel_rfl)
  have t := @tup_le [a1, a2] [some (.loc x)] S (by simp)
  simp only [evE, evEs, List.getElem?_cons_zero, Res.bind_ok, s_attr, f1, f2]
  rfl
theorem lam_Moves (k : Nat) {S : Sto} {x : Nat} {a1 : D} (hx : S[x]? = some (.ins "Moves" [("forces", a1)])) : (lv (k + 1)).lm 6 [.loc x] S = .ok (.tup [a1]) S := by
  show lamC (semL none false (lv k)) 1 1 l_6.1 [.loc x] S = _
  unfold lamC l_6
  rw [if_pos (by rfl)]
  simp only [show startD 1 [D.loc x] = [some (.loc x)] from rfl]
  have f1 := fld_ins (f := "forces") (v := a1) hx (by decide +kernel) (by kernel_rfl)
  have t := @tup_le [a1] [some (.loc x)] S (by simp)
  simp only [evE, evEs, List.getElem?_cons_zero, Res.bind_ok, s_attr, f1]
  rfl
theorem lam_Gives (k : Nat) {S : Sto} {x : Nat} {a1 : D} (hx : S[x]? = some (.ins "Gives" [("motion", a1)])) : (lv (k + 1)).lm 7 [.loc x] S = .ok (.tup [a1]) S := by
  show lamC (semL none false (lv k)) 1 1 l_7.1 [.loc x] S = _
  unfold lamC l_7
  rw [if_pos (by rfl)]
  simp only [show startD 1 [D.loc x] = [some (.loc x)] from rfl]
  have f1 := fld_ins (f := "motion") (v := a1) hx (by decide +kernel) (by kernel_rfl)
  have t := @tup_le [a1] [some (.loc x)] S (by simp)
  simp only [evE, evEs, List.getElem?_cons_zero, Res.bind_ok, s_attr, f1]
  rfl
theorem lam_Moment (k : Nat) {S : Sto} {x : Nat} {a1 : D} (hx : S[x]? = some (.ins "Moment" [("ratio", a1)])) : (lv (k + 1)).lm 8 [.loc x] S = .ok (.tup [a1]) S := by
  show lamC (semL none false (lv k)) 1 1 l_8.1 [.loc x] S = _
  unfold lamC l_8
  rw [if_pos (by rfl)]
  simp only [show startD 1 [D.loc x] = [some (.loc x)] from rfl]
  have f1 := fld_ins (f := "ratio") (v := a1) hx (by decide +kernel) (by kernel_rfl)
  have t := @tup_le [a1] [some (.loc x)] S (by simp)
  simp only [evE, evEs, List.getElem?_cons_zero, Res.bind_ok, s_attr, f1]
  rfl
theorem lam_Bends (k : Nat) {S : Sto} {x : Nat} {a1 : D} (hx : S[x]? = some (.ins "Bends" [("ratio", a1)])) : (lv (k + 1)).lm 9 [.loc x] S = .ok (.tup [a1]) S := by
  show lamC (semL none false (lv k)) 1 1 l_9.1 [.loc x] S = _
  unfold lamC l_9
  rw [if_pos (by rfl)]
  simp only [show startD 1 [D.loc x] = [some (.loc x)] from rfl]
  have f1 := fld_ins (f := "ratio") (v := a1) hx (by decide +kernel) (by kernel_rfl)
  have t := @tup_le [a1] [some (.loc x)] S (by simp)
  simp only [evE, evEs, List.getElem?_cons_zero, Res.bind_ok, s_attr, f1]
  rfl
theorem lam_Loose (k : Nat) {S : Sto} {x : Nat} {a1 : D} (hx : S[x]? = some (.ins "Loose" [("motion", a1)])) : (lv (k + 1)).lm 10 [.loc x] S = .ok (.tup [a1]) S := by
  show lamC (semL none false (lv k)) 1 1 l_10.1 [.loc x] S = _
  unfold lamC l_10
  rw [if_pos (by rfl)]
  simp only [show startD 1 [D.loc x] = [some (.loc x)] from rfl]
  have f1 := fld_ins (f := "motion") (v := a1) hx (by decide +kernel) (by kernel_rfl)
  have t := @tup_le [a1] [some (.loc x)] S (by simp)
  simp only [evE, evEs, List.getElem?_cons_zero, Res.bind_ok, s_attr, f1]
  rfl
theorem lam_Line (k : Nat) {S : Sto} {x : Nat} {a1 : D} (hx : S[x]? = some (.ins "Line" [("pieces", a1)])) : (lv (k + 1)).lm 11 [.loc x] S = .ok (.tup [a1]) S := by
  show lamC (semL none false (lv k)) 1 1 l_11.1 [.loc x] S = _
  unfold lamC l_11
  rw [if_pos (by rfl)]
  simp only [show startD 1 [D.loc x] = [some (.loc x)] from rfl]
  have f1 := fld_ins (f := "pieces") (v := a1) hx (by decide +kernel) (by kernel_rfl)
  have t := @tup_le [a1] [some (.loc x)] S (by simp)
  simp only [evE, evEs, List.getElem?_cons_zero, Res.bind_ok, s_attr, f1]
  rfl
theorem lam_Paper (k : Nat) {S : Sto} {x : Nat} {a1 : D} (hx : S[x]? = some (.ins "Paper" [("asked", a1)])) : (lv (k + 1)).lm 12 [.loc x] S = .ok (.tup [a1]) S := by
  show lamC (semL none false (lv k)) 1 1 l_12.1 [.loc x] S = _
  unfold lamC l_12
  rw [if_pos (by rfl)]
  simp only [show startD 1 [D.loc x] = [some (.loc x)] from rfl]
  have f1 := fld_ins (f := "asked") (v := a1) hx (by decide +kernel) (by kernel_rfl)
  have t := @tup_le [a1] [some (.loc x)] S (by simp)
  simp only [evE, evEs, List.getElem?_cons_zero, Res.bind_ok, s_attr, f1]
  rfl
theorem lam_Design (k : Nat) {S : Sto} {x : Nat} {a1 a2 : D} (hx : S[x]? = some (.ins "Design" [("cost", a1), ("strengths", a2)])) : (lv (k + 1)).lm 13 [.loc x] S = .ok (.tup [a1, a2]) S := by
  show lamC (semL none false (lv k)) 1 1 l_13.1 [.loc x] S = _
  unfold lamC l_13
  rw [if_pos (by rfl)]
  simp only [show startD 1 [D.loc x] = [some (.loc x)] from rfl]
  have f1 := fld_ins (f := "cost") (v := a1) hx (by decide +kernel) (by kernel_rfl)
  have f2 := fld_ins (f := "strengths") (v := a2) hx (by decide +kernel) (by kernel_rfl)
  have t := @tup_le [a1, a2] [some (.loc x)] S (by simp)
  simp only [evE, evEs, List.getElem?_cons_zero, Res.bind_ok, s_attr, f1, f2]
  rfl
theorem lam_Endless (k : Nat) {S : Sto} {x : Nat} (hx : S[x]? = some (.ins "Endless" [])) : (lv (k + 1)).lm 14 [.loc x] S = .ok (.tup []) S := by
  show lamC (semL none false (lv k)) 1 1 l_14.1 [.loc x] S = _
  unfold lamC l_14
  rw [if_pos (by rfl)]
  simp only [show startD 1 [D.loc x] = [some (.loc x)] from rfl]
  have t := @tup_le [] [some (.loc x)] S (by simp)
  simp only [evE, evEs, List.getElem?_cons_zero, Res.bind_ok, s_attr]
  rfl
theorem mfields_spec (k : Nat) {S : Sto} {x : Nat} {a1 a2 a3 a4 a5 a6 : D} (hx : S[x]? = some (.ins "Model" [("joints", a1), ("beams", a2), ("marks", a3), ("loads", a4), ("asks", a5), ("prices", a6)])) : (lv (k + 1)).cl "_law_model_fields" [.loc x] S = .ok (.tup [a1, a2, a3, a4, a5]) S := by
  rw [lv_cl k "_law_model_fields" (e := ⟨n__law_model_fields, p__law_model_fields, c__law_model_fields.1, none⟩) (by kernel_rfl)]
  unfold callC runC c__law_model_fields
  rw [if_pos (by rfl)]
  simp only [show startD n__law_model_fields.length [D.loc x] = [some (.loc x)] from rfl]
  rw [exCs, exC]
  have f1 := fld_ins (f := "joints") (v := a1) hx (by decide +kernel) (by kernel_rfl)
  have f2 := fld_ins (f := "beams") (v := a2) hx (by decide +kernel) (by kernel_rfl)
  have f3 := fld_ins (f := "marks") (v := a3) hx (by decide +kernel) (by kernel_rfl)
  have f4 := fld_ins (f := "loads") (v := a4) hx (by decide +kernel) (by kernel_rfl)
  have f5 := fld_ins (f := "asks") (v := a5) hx (by decide +kernel) (by kernel_rfl)
  simp only [evE, evEs, List.getElem?_cons_zero, Res.bind_ok, s_attr, f1, f2, f3, f4, f5]
  rfl
theorem bt_int {S : Sto} {i : Int} : Bt S (.int i) := ⟨"int", rfl, by decide, rfl⟩
abbrev RI := Str × List (Str × D) × D × D
def rinf (S : Sto) (a b c d : D) : List RI := [
  ("Stresses", [("rows", cpD S a)], .tup [a], .lam 0),
  ("Stills", [("rows", cpD S a)], .tup [a], .lam 1),
  ("Carries", [("forces", cpD S b)], .tup [b], .lam 2),
  ("Yields", [("motion", cpD S a), ("kinks", cpD S b)], .tup [a, b], .lam 3),
  ("Factor", [("ratio", cpD S c)], .tup [c], .lam 4),
  ("Range", [("low", cpD S a), ("high", cpD S b)], .tup [a, b], .lam 5),
  ("Moves", [("forces", cpD S d)], .tup [d], .lam 6),
  ("Gives", [("motion", cpD S d)], .tup [d], .lam 7),
  ("Moment", [("ratio", cpD S c)], .tup [c], .lam 8),
  ("Bends", [("ratio", cpD S c)], .tup [c], .lam 9),
  ("Loose", [("motion", cpD S d)], .tup [d], .lam 10),
  ("Line", [("pieces", cpD S a)], .tup [a], .lam 11),
  ("Paper", [("asked", cpD S a)], .tup [a], .lam 12),
  ("Design", [("cost", cpD S a), ("strengths", cpD S b)], .tup [a, b], .lam 13),
  ("Model", [("joints", cpD S a), ("beams", cpD S b), ("marks", cpD S c), ("loads", cpD S d), ("asks", .int 5), ("prices", .tup [])], .tup [a, b, c, d, .int 5], .glb "_law_model_fields"),
  ("Endless", [], .tup [], .lam 14)]
def rpos (n : Nat) (i : Nat) : Nat := if i = 0 then n else n + 2 * i + 1
def rins (l : List RI) : Sto := l.flatMap fun x => [.ins x.1 x.2.1, .ins x.1 x.2.1]
def rds (n : Nat) : Nat → List RI → List D
  | _, [] => []
  | i, x :: r => rowD (rpos n i) x.2.2.1 x.2.2.2 :: rds n (i + 1) r
def rsto (n : Nat) : List RI → Sto
  | [] => []
  | x :: r => .ins x.1 x.2.1 :: .ins x.1 x.2.1 :: .lst (rds n 0 (x :: r)) :: rins r
theorem rows_spec (k : Nat) {S : Sto} {a b c d : D} (ha : Bt S a) (hb : Bt S b) (hc : Bt S c) (hd : Bt S d) : (lv 8).cl "_law_rows" [a, b, c, d] S = .ok (.loc (S.length + 2)) (S ++ rsto S.length (rinf S a b c d)) := by
  rw [lv_cl 7 "_law_rows" (e := ⟨n__law_rows, p__law_rows, c__law_rows.1, some "_law_rows"⟩) (by kernel_rfl)]
  unfold callC runC c__law_rows
  rw [if_pos (by rfl)]
  simp only [show startD n__law_rows.length [a, b, c, d] = [some a, some b, some c, some d, none] from rfl]
  have h : exCs (semL (some "_law_rows") false (lv 7)) 0 c__law_rows.1 [some a, some b, some c, some d, none] S = .ok (.ret (.loc (S.length + 2))) (S ++ rsto S.length (rinf S a b c d)) := by
    unfold c__law_rows
    dsimp only
    refine (row_first (ev_make (fun S => by kernel_rfl) (mks_Stresses 4 ha)) (ev_makeK (us := [a]) (fun S => by kernel_rfl) (by kernel_rfl) (by kernel_rfl) (mks_Stresses 4 ha)) (d3 := .tup [a]) (d4 := .lam 0) (fun S => by kernel_rfl) (fun S => by kernel_rfl) (by simp)).trans ?_
    refine (row_step (r := 2) (ds := rds S.length 0 (List.take 1 (rinf S a b c d))) (by kernel_rfl) (by kernel_rfl) (by kernel_rfl) (ev_make (fun S => by kernel_rfl) (mks_Stills 4 ha)) (ev_makeK (us := [a]) (fun S => by kernel_rfl) (by kernel_rfl) (by kernel_rfl) (mks_Stills 4 ha)) (d3 := .tup [a]) (d4 := .lam 1) (fun S => by kernel_rfl) (fun S => by kernel_rfl)).trans ?_
    refine (row_step (r := 2) (ds := rds S.length 0 (List.take 2 (rinf S a b c d))) (by kernel_rfl) (by kernel_rfl) (by kernel_rfl) (ev_make (fun S => by kernel_rfl) (mks_Carries 4 hb)) (ev_makeK (us := [b]) (fun S => by kernel_rfl) (by kernel_rfl) (by kernel_rfl) (mks_Carries 4 hb)) (d3 := .tup [b]) (d4 := .lam 2) (fun S => by kernel_rfl) (fun S => by kernel_rfl)).trans ?_
    refine (row_step (r := 2) (ds := rds S.length 0 (List.take 3 (rinf S a b c d))) (by kernel_rfl) (by kernel_rfl) (by kernel_rfl) (ev_make (fun S => by kernel_rfl) (mks_Yields 4 ha hb)) (ev_makeK (us := [b, a]) (fun S => by kernel_rfl) (by kernel_rfl) (by kernel_rfl) (mks_Yields 4 ha hb)) (d3 := .tup [a, b]) (d4 := .lam 3) (fun S => by kernel_rfl) (fun S => by kernel_rfl)).trans ?_
    refine (row_step (r := 2) (ds := rds S.length 0 (List.take 4 (rinf S a b c d))) (by kernel_rfl) (by kernel_rfl) (by kernel_rfl) (ev_make (fun S => by kernel_rfl) (mks_Factor 4 hc)) (ev_makeK (us := [c]) (fun S => by kernel_rfl) (by kernel_rfl) (by kernel_rfl) (mks_Factor 4 hc)) (d3 := .tup [c]) (d4 := .lam 4) (fun S => by kernel_rfl) (fun S => by kernel_rfl)).trans ?_
    refine (row_step (r := 2) (ds := rds S.length 0 (List.take 5 (rinf S a b c d))) (by kernel_rfl) (by kernel_rfl) (by kernel_rfl) (ev_make (fun S => by kernel_rfl) (mks_Range 4 ha hb)) (ev_makeK (us := [b, a]) (fun S => by kernel_rfl) (by kernel_rfl) (by kernel_rfl) (mks_Range 4 ha hb)) (d3 := .tup [a, b]) (d4 := .lam 5) (fun S => by kernel_rfl) (fun S => by kernel_rfl)).trans ?_
    refine (row_step (r := 2) (ds := rds S.length 0 (List.take 6 (rinf S a b c d))) (by kernel_rfl) (by kernel_rfl) (by kernel_rfl) (ev_make (fun S => by kernel_rfl) (mks_Moves 4 hd)) (ev_makeK (us := [d]) (fun S => by kernel_rfl) (by kernel_rfl) (by kernel_rfl) (mks_Moves 4 hd)) (d3 := .tup [d]) (d4 := .lam 6) (fun S => by kernel_rfl) (fun S => by kernel_rfl)).trans ?_
    refine (row_step (r := 2) (ds := rds S.length 0 (List.take 7 (rinf S a b c d))) (by kernel_rfl) (by kernel_rfl) (by kernel_rfl) (ev_make (fun S => by kernel_rfl) (mks_Gives 4 hd)) (ev_makeK (us := [d]) (fun S => by kernel_rfl) (by kernel_rfl) (by kernel_rfl) (mks_Gives 4 hd)) (d3 := .tup [d]) (d4 := .lam 7) (fun S => by kernel_rfl) (fun S => by kernel_rfl)).trans ?_
    refine (row_step (r := 2) (ds := rds S.length 0 (List.take 8 (rinf S a b c d))) (by kernel_rfl) (by kernel_rfl) (by kernel_rfl) (ev_make (fun S => by kernel_rfl) (mks_Moment 4 hc)) (ev_makeK (us := [c]) (fun S => by kernel_rfl) (by kernel_rfl) (by kernel_rfl) (mks_Moment 4 hc)) (d3 := .tup [c]) (d4 := .lam 8) (fun S => by kernel_rfl) (fun S => by kernel_rfl)).trans ?_
    refine (row_step (r := 2) (ds := rds S.length 0 (List.take 9 (rinf S a b c d))) (by kernel_rfl) (by kernel_rfl) (by kernel_rfl) (ev_make (fun S => by kernel_rfl) (mks_Bends 4 hc)) (ev_makeK (us := [c]) (fun S => by kernel_rfl) (by kernel_rfl) (by kernel_rfl) (mks_Bends 4 hc)) (d3 := .tup [c]) (d4 := .lam 9) (fun S => by kernel_rfl) (fun S => by kernel_rfl)).trans ?_
    refine (row_step (r := 2) (ds := rds S.length 0 (List.take 10 (rinf S a b c d))) (by kernel_rfl) (by kernel_rfl) (by kernel_rfl) (ev_make (fun S => by kernel_rfl) (mks_Loose 4 hd)) (ev_makeK (us := [d]) (fun S => by kernel_rfl) (by kernel_rfl) (by kernel_rfl) (mks_Loose 4 hd)) (d3 := .tup [d]) (d4 := .lam 10) (fun S => by kernel_rfl) (fun S => by kernel_rfl)).trans ?_
    refine (row_step (r := 2) (ds := rds S.length 0 (List.take 11 (rinf S a b c d))) (by kernel_rfl) (by kernel_rfl) (by kernel_rfl) (ev_make (fun S => by kernel_rfl) (mks_Line 4 ha)) (ev_makeK (us := [a]) (fun S => by kernel_rfl) (by kernel_rfl) (by kernel_rfl) (mks_Line 4 ha)) (d3 := .tup [a]) (d4 := .lam 11) (fun S => by kernel_rfl) (fun S => by kernel_rfl)).trans ?_
    refine (row_step (r := 2) (ds := rds S.length 0 (List.take 12 (rinf S a b c d))) (by kernel_rfl) (by kernel_rfl) (by kernel_rfl) (ev_make (fun S => by kernel_rfl) (mks_Paper 4 ha)) (ev_makeK (us := [a]) (fun S => by kernel_rfl) (by kernel_rfl) (by kernel_rfl) (mks_Paper 4 ha)) (d3 := .tup [a]) (d4 := .lam 12) (fun S => by kernel_rfl) (fun S => by kernel_rfl)).trans ?_
    refine (row_step (r := 2) (ds := rds S.length 0 (List.take 13 (rinf S a b c d))) (by kernel_rfl) (by kernel_rfl) (by kernel_rfl) (ev_make (fun S => by kernel_rfl) (mks_Design 4 ha hb)) (ev_makeK (us := [b, a]) (fun S => by kernel_rfl) (by kernel_rfl) (by kernel_rfl) (mks_Design 4 ha hb)) (d3 := .tup [a, b]) (d4 := .lam 13) (fun S => by kernel_rfl) (fun S => by kernel_rfl)).trans ?_
    refine (row_step (r := 2) (ds := rds S.length 0 (List.take 14 (rinf S a b c d))) (by kernel_rfl) (by kernel_rfl) (by kernel_rfl) (ev_make (fun S => by kernel_rfl) (mks_Model5 4 ha hb hc hd (bt_int (i := 5)))) (ev_makeK (us := [.int 5, d, c, b, a]) (fun S => by kernel_rfl) (by kernel_rfl) (by kernel_rfl) (mks_Model5 4 ha hb hc hd (bt_int (i := 5)))) (d3 := .tup [a, b, c, d, .int 5]) (d4 := .glb "_law_model_fields") (fun S => by kernel_rfl) (fun S => by kernel_rfl)).trans ?_
    refine (row_step (r := 2) (ds := rds S.length 0 (List.take 15 (rinf S a b c d))) (by kernel_rfl) (by kernel_rfl) (by kernel_rfl) (ev_make (fun S => by kernel_rfl) (mks_Endless 4 )) (ev_make (fun S => by kernel_rfl) (mks_Endless 4 )) (d3 := .tup []) (d4 := .lam 14) (fun S => by kernel_rfl) (fun S => by kernel_rfl)).trans ?_
    rw [exCs, exC]
    kernel_rfl
  unfold c__law_rows at h
  dsimp only at h ⊢
  rw [h]
end K90

namespace K90
open PySem PySem.Spec PyProof.Rows L2 PV
/-! ### repr, and what a row answers -/
theorem join_len {n : Nat} : ∀ {l : List Str}, (∀ x ∈ l, x.length ≤ n) → (Str.join ", " l).length ≤ (n + 2) * l.length
  | [], _ => by show Str.length "" ≤ _; rw [show Str.length "" = 0 from by decide +kernel]; exact Nat.zero_le _
  | [x], h => by
    have := h x List.mem_cons_self
    show x.length ≤ _
    simp
    omega
  | x :: y :: r, h => by
    have h1 := h x List.mem_cons_self
    have h2 := join_len (l := y :: r) fun z hz => h z (List.mem_cons_of_mem _ hz)
    show (x ++ ", " ++ Str.join ", " (y :: r)).length ≤ _
    rw [Str.length_append, Str.length_append, show Str.length ", " = 2 from by decide +kernel]
    rw [List.length_cons, Nat.mul_succ]
    omega
theorem shownAll_le {n : Nat} : ∀ {ps : List PyData}, (∀ p ∈ ps, p.shown.length ≤ n) → (∀ x ∈ PyData.shownAll ps, x.length ≤ n) ∧ (PyData.shownAll ps).length = ps.length
  | [], _ => ⟨fun x hx => (by cases hx), rfl⟩
  | p :: ps, h => by
    obtain ⟨h1, h2⟩ := shownAll_le fun q hq => h q (List.mem_cons_of_mem _ hq)
    rw [PyData.shownAll]
    refine ⟨fun x hx => ?_, by rw [List.length_cons, List.length_cons, h2]⟩
    cases hx with
    | head => exact h p List.mem_cons_self
    | tail _ hx => exact h1 x hx
theorem shown_tup {ps : List PyData} (h : ∀ p ∈ ps, Gd p) (hl : ps.length ≤ 10) : (PyData.tuple ps).shown.length ≤ 20000 := by
  obtain ⟨h1, h2⟩ := shownAll_le fun p hp => (h p hp).ln
  rw [PyData.shown]
  unfold tupleText
  have h3 := join_len h1
  rw [h2] at h3
  rw [Str.length_append, Str.length_append, show Str.length "(" = 1 from by decide +kernel]
  have h4 : (Str.ofString (if ((PyData.shownAll ps).length == 1) = true then ",)" else ")")).length ≤ 2 := by
    split
    · decide +kernel
    · decide +kernel
  have h5 : (1000 + 2) * ps.length ≤ 1002 * 10 := Nat.mul_le_mul_left _ hl
  show 1 + (Str.join ", " (PyData.shownAll ps)).length + _ ≤ _
  omega
theorem strOk_app {a b : Str} (ha : PyData.strOk a = true) (hb : PyData.strOk b = true) : PyData.strOk (a ++ b) = true := by
  unfold PyData.strOk at *
  show (a.cps ++ b.cps).all _ = true
  rw [Array.all_append, ha, hb]
  rfl
theorem strOk_join : ∀ {l : List Str}, (∀ x ∈ l, PyData.strOk x = true) → PyData.strOk (Str.join ", " l) = true
  | [], _ => by show PyData.strOk "" = true; decide +kernel
  | [x], h => h x List.mem_cons_self
  | x :: y :: r, h => strOk_app (strOk_app (h x List.mem_cons_self) (by decide +kernel)) (strOk_join (l := y :: r) fun z hz => h z (List.mem_cons_of_mem _ hz))
theorem strOk_all : ∀ {ps : List PyData}, (∀ p ∈ ps, Gd p) → ∀ x ∈ PyData.shownAll ps, PyData.strOk x = true
  | [], _, x, hx => by cases hx
  | p :: ps, h, x, hx => by
    rw [PyData.shownAll] at hx
    cases hx with
    | head => exact (h p List.mem_cons_self).so
    | tail _ hx => exact strOk_all (fun q hq => h q (List.mem_cons_of_mem _ hq)) x hx
theorem strOk_tup {ps : List PyData} (h : ∀ p ∈ ps, Gd p) : PyData.strOk (PyData.tuple ps).shown = true := by
  rw [PyData.shown]
  unfold tupleText
  refine strOk_app (strOk_app (by decide +kernel) (strOk_join (strOk_all h))) ?_
  split
  · decide +kernel
  · decide +kernel
theorem eqv_tup {ps : List PyData} (h : ∀ p ∈ ps, Gd p) : (PyData.tuple ps).eqv (.tuple ps) = true := SeqAt.eqv_refl _ (by rw [PyData.canLay0]; exact (gd_tup h).1)
theorem repr_tup {S : Sto} {vs : List D} {ps : List PyData} (h : vs.mapM (toPy S 11) = some ps) (g : ∀ p ∈ ps, Gd p) (hl : ps.length ≤ 10) : ∃ s, reprP true [.tup vs] S = .ok (.str s) S ∧ PyData.strOk s = true := by
  obtain ⟨h1, h2, h3⟩ := gd_tup g
  unfold reprP
  dsimp only
  rw [if_pos rfl, toPy_tup h]
  dsimp only
  have c : PyData.canLay0 (.tuple ps) = true := by rw [PyData.canLay0]; exact h1
  rw [if_pos ⟨by rw [PyData.showable]; exact h3, PyData.hasDict_of_canLay _ c, by rw [PyData.depth]; omega, Nat.le_trans (shown_tup g hl) (by decide)⟩]
  exact ⟨_, rfl, strOk_tup g⟩
theorem repr_fv {S : Sto} {v : D} {p : PyData} (h : Fv S v p) : reprP true [v] S = .ok (.str p.shown) S := by
  unfold reprP
  dsimp only
  rw [if_pos rfl, toPy_succ 11 v p h.p11]
  dsimp only
  rw [if_pos ⟨h.g.sw, PyData.hasDict_of_canLay _ h.g.lay, Nat.le_trans h.g.dp (by decide), Nat.le_trans h.g.ln (by decide)⟩]
noncomputable def callF (fn : D) (x : Nat) (S : Sto) : Res D := match fn with
  | .glb f => (lv 8).cl f [.loc x] S
  | .lam j => (lv 8).lm j [.loc x] S
  | _ => .bad
structure RowOk (S : Sto) (x y : Nat) (hs : List D) (fn : D) : Prop where
  bt : ∀ v ∈ hs, Bt S v
  ln : hs.length ≤ 10
  fx : callF fn x S = .ok (.tup (hs.map (cpD S))) S
  fy : callF fn y S = .ok (.tup (hs.map (cpD S))) S
  eq : cmpD (lv 8).mc (fun c => cls90.contains c) .Eq (.loc x) (.loc y) S = .ok (.bl true) S
  ne : cmpD (lv 8).mc (fun c => cls90.contains c) .NotEq (.loc x) (.loc y) S = .ok (.bl false) S
  rp : ∃ s, reprP true [.tup (hs.map (cpD S))] S = .ok (.str s) S ∧ PyData.strOk s = true
/-- a value, and the data that it is handed on as -/
structure Vc (S : Sto) (v : D) (p : PyData) : Prop where
  bt : Bt S v
  fv : Fv S (cpD S v) p
theorem fv_app {T S : Sto} {v : D} {p : PyData} (h : Fv S v p) : Fv (S ++ T) v p := ⟨toPy_kp (fun v ds e => by
    cases v with
    | loc n =>
      unfold PV.listOf at e ⊢
      dsimp only at e ⊢
      cases e1 : S[n]? with
      | none => rw [e1] at e; cases e
      | some o =>
        rw [e1] at e
        rw [List.getElem?_append_left (List.getElem?_eq_some_iff.mp e1).1, e1]
        exact e
    | _ => cases e) 10 v p h.py, h.g⟩
theorem Vc.app {T S : Sto} {v : D} {p : PyData} (h : Vc S v p) : Vc (S ++ T) v p := by
  obtain ⟨b1, b2⟩ := bt_app (T := T) h.bt
  refine ⟨b1, ?_⟩
  rw [b2]
  exact fv_app h.fv
theorem gd_int {i : Int} (h : decide (i.natAbs.log2 < 1920) = true) (hl : decide ((PyData.int i).shown.length ≤ 1000) = true) (hs : PyData.strOk (PyData.int i).shown = true) : Gd (.int i) := ⟨rfl, by rw [PyData.depth]; exact Nat.zero_le _, by rw [PyData.showable]; exact h, of_decide_eq_true hl, hs⟩
theorem fv_int {S : Sto} {i : Int} (h : Gd (.int i)) : Fv S (.int i) (.int i) := ⟨rfl, h⟩
theorem gd_5 : Gd (.int 5) := gd_int (by decide +kernel) (by decide +kernel) (by decide +kernel)
theorem gd_nil : Gd (.tuple []) := ⟨rfl, by decide +kernel, by decide +kernel, by decide +kernel, by decide +kernel⟩
theorem fv_nil {S : Sto} : Fv S (.tup []) (.tuple []) := ⟨rfl, gd_nil⟩
theorem row_Stresses {S : Sto} {x y : Nat} {v1 : D} {p1 : PyData} (hx : S[x]? = some (.ins "Stresses" [("rows", cpD S v1)])) (hy : S[y]? = some (.ins "Stresses" [("rows", cpD S v1)])) (h1 : Vc S v1 p1) : RowOk S x y [v1] (.lam 0) := by
  refine ⟨(by simp only [List.mem_singleton, forall_eq]; exact h1.bt), by simp, lam_Stresses 7 hx, lam_Stresses 7 hy, ?_, ?_, repr_tup (ps := [p1]) (mapM_cons h1.fv.p11 mapM_nil) (by simp only [List.mem_singleton, forall_eq]; exact h1.fv.g) (by simp)⟩
  · rw [cmp_own_eq hx hy (by decide +kernel) (by decide +kernel)]
    exact (eq_Stresses 6 hx hy h1.fv h1.fv).trans (by rw [SeqAt.eqv_refl _ h1.fv.g.lay])
  · rw [cmp_own_ne hx hy (by decide +kernel) (by decide +kernel)]
    exact ne_of_eq (b := true) 7 (cd := c_Stresses__ne__.1) rfl (by kernel_rfl) hx hy (by decide +kernel) (by decide +kernel) ((eq_Stresses 5 hx hy h1.fv h1.fv).trans (by rw [SeqAt.eqv_refl _ h1.fv.g.lay]))
theorem row_Stills {S : Sto} {x y : Nat} {v1 : D} {p1 : PyData} (hx : S[x]? = some (.ins "Stills" [("rows", cpD S v1)])) (hy : S[y]? = some (.ins "Stills" [("rows", cpD S v1)])) (h1 : Vc S v1 p1) : RowOk S x y [v1] (.lam 1) := by
  refine ⟨(by simp only [List.mem_singleton, forall_eq]; exact h1.bt), by simp, lam_Stills 7 hx, lam_Stills 7 hy, ?_, ?_, repr_tup (ps := [p1]) (mapM_cons h1.fv.p11 mapM_nil) (by simp only [List.mem_singleton, forall_eq]; exact h1.fv.g) (by simp)⟩
  · rw [cmp_own_eq hx hy (by decide +kernel) (by decide +kernel)]
    exact (eq_Stills 6 hx hy h1.fv h1.fv).trans (by rw [SeqAt.eqv_refl _ h1.fv.g.lay])
  · rw [cmp_own_ne hx hy (by decide +kernel) (by decide +kernel)]
    exact ne_of_eq (b := true) 7 (cd := c_Stills__ne__.1) rfl (by kernel_rfl) hx hy (by decide +kernel) (by decide +kernel) ((eq_Stills 5 hx hy h1.fv h1.fv).trans (by rw [SeqAt.eqv_refl _ h1.fv.g.lay]))
theorem row_Carries {S : Sto} {x y : Nat} {v1 : D} {p1 : PyData} (hx : S[x]? = some (.ins "Carries" [("forces", cpD S v1)])) (hy : S[y]? = some (.ins "Carries" [("forces", cpD S v1)])) (h1 : Vc S v1 p1) : RowOk S x y [v1] (.lam 2) := by
  refine ⟨(by simp only [List.mem_singleton, forall_eq]; exact h1.bt), by simp, lam_Carries 7 hx, lam_Carries 7 hy, ?_, ?_, repr_tup (ps := [p1]) (mapM_cons h1.fv.p11 mapM_nil) (by simp only [List.mem_singleton, forall_eq]; exact h1.fv.g) (by simp)⟩
  · rw [cmp_own_eq hx hy (by decide +kernel) (by decide +kernel)]
    exact (eq_Carries 6 hx hy h1.fv h1.fv).trans (by rw [SeqAt.eqv_refl _ h1.fv.g.lay])
  · rw [cmp_own_ne hx hy (by decide +kernel) (by decide +kernel)]
    exact ne_of_eq (b := true) 7 (cd := c_Carries__ne__.1) rfl (by kernel_rfl) hx hy (by decide +kernel) (by decide +kernel) ((eq_Carries 5 hx hy h1.fv h1.fv).trans (by rw [SeqAt.eqv_refl _ h1.fv.g.lay]))
theorem row_Yields {S : Sto} {x y : Nat} {v1 v2 : D} {p1 p2 : PyData} (hx : S[x]? = some (.ins "Yields" [("motion", cpD S v1), ("kinks", cpD S v2)])) (hy : S[y]? = some (.ins "Yields" [("motion", cpD S v1), ("kinks", cpD S v2)])) (h1 : Vc S v1 p1) (h2 : Vc S v2 p2) : RowOk S x y [v1, v2] (.lam 3) := by
  refine ⟨(by simp only [List.mem_cons, List.not_mem_nil, or_false, forall_eq_or_imp, forall_eq]; exact ⟨h1.bt, h2.bt⟩), by simp, lam_Yields 7 hx, lam_Yields 7 hy, ?_, ?_, repr_tup (ps := [p1, p2]) (mapM_cons h1.fv.p11 (mapM_cons h2.fv.p11 mapM_nil)) (by simp only [List.mem_cons, List.not_mem_nil, or_false, forall_eq_or_imp, forall_eq]; exact ⟨h1.fv.g, h2.fv.g⟩) (by simp)⟩
  · rw [cmp_own_eq hx hy (by decide +kernel) (by decide +kernel)]
    exact (eq_Yields 6 hx hy h1.fv h1.fv h2.fv h2.fv).trans (by rw [eqv_tup (by simp only [List.mem_cons, List.not_mem_nil, or_false, forall_eq_or_imp, forall_eq]; exact ⟨h1.fv.g, h2.fv.g⟩)])
  · rw [cmp_own_ne hx hy (by decide +kernel) (by decide +kernel)]
    exact ne_of_eq (b := true) 7 (cd := c_Yields__ne__.1) rfl (by kernel_rfl) hx hy (by decide +kernel) (by decide +kernel) ((eq_Yields 5 hx hy h1.fv h1.fv h2.fv h2.fv).trans (by rw [eqv_tup (by simp only [List.mem_cons, List.not_mem_nil, or_false, forall_eq_or_imp, forall_eq]; exact ⟨h1.fv.g, h2.fv.g⟩)]))
theorem row_Factor {S : Sto} {x y : Nat} {v1 : D} {p1 : PyData} (hx : S[x]? = some (.ins "Factor" [("ratio", cpD S v1)])) (hy : S[y]? = some (.ins "Factor" [("ratio", cpD S v1)])) (h1 : Vc S v1 p1) : RowOk S x y [v1] (.lam 4) := by
  refine ⟨(by simp only [List.mem_singleton, forall_eq]; exact h1.bt), by simp, lam_Factor 7 hx, lam_Factor 7 hy, ?_, ?_, repr_tup (ps := [p1]) (mapM_cons h1.fv.p11 mapM_nil) (by simp only [List.mem_singleton, forall_eq]; exact h1.fv.g) (by simp)⟩
  · rw [cmp_own_eq hx hy (by decide +kernel) (by decide +kernel)]
    exact (eq_Factor 6 hx hy h1.fv h1.fv).trans (by rw [SeqAt.eqv_refl _ h1.fv.g.lay])
  · rw [cmp_own_ne hx hy (by decide +kernel) (by decide +kernel)]
    exact ne_of_eq (b := true) 7 (cd := c_Factor__ne__.1) rfl (by kernel_rfl) hx hy (by decide +kernel) (by decide +kernel) ((eq_Factor 5 hx hy h1.fv h1.fv).trans (by rw [SeqAt.eqv_refl _ h1.fv.g.lay]))
theorem row_Range {S : Sto} {x y : Nat} {v1 v2 : D} {p1 p2 : PyData} (hx : S[x]? = some (.ins "Range" [("low", cpD S v1), ("high", cpD S v2)])) (hy : S[y]? = some (.ins "Range" [("low", cpD S v1), ("high", cpD S v2)])) (h1 : Vc S v1 p1) (h2 : Vc S v2 p2) : RowOk S x y [v1, v2] (.lam 5) := by
  refine ⟨(by simp only [List.mem_cons, List.not_mem_nil, or_false, forall_eq_or_imp, forall_eq]; exact ⟨h1.bt, h2.bt⟩), by simp, lam_Range 7 hx, lam_Range 7 hy, ?_, ?_, repr_tup (ps := [p1, p2]) (mapM_cons h1.fv.p11 (mapM_cons h2.fv.p11 mapM_nil)) (by simp only [List.mem_cons, List.not_mem_nil, or_false, forall_eq_or_imp, forall_eq]; exact ⟨h1.fv.g, h2.fv.g⟩) (by simp)⟩
  · rw [cmp_own_eq hx hy (by decide +kernel) (by decide +kernel)]
    exact (eq_Range 6 hx hy h1.fv h1.fv h2.fv h2.fv).trans (by rw [eqv_tup (by simp only [List.mem_cons, List.not_mem_nil, or_false, forall_eq_or_imp, forall_eq]; exact ⟨h1.fv.g, h2.fv.g⟩)])
  · rw [cmp_own_ne hx hy (by decide +kernel) (by decide +kernel)]
    exact ne_of_eq (b := true) 7 (cd := c_Range__ne__.1) rfl (by kernel_rfl) hx hy (by decide +kernel) (by decide +kernel) ((eq_Range 5 hx hy h1.fv h1.fv h2.fv h2.fv).trans (by rw [eqv_tup (by simp only [List.mem_cons, List.not_mem_nil, or_false, forall_eq_or_imp, forall_eq]; exact ⟨h1.fv.g, h2.fv.g⟩)]))
theorem row_Moves {S : Sto} {x y : Nat} {v1 : D} {p1 : PyData} (hx : S[x]? = some (.ins "Moves" [("forces", cpD S v1)])) (hy : S[y]? = some (.ins "Moves" [("forces", cpD S v1)])) (h1 : Vc S v1 p1) : RowOk S x y [v1] (.lam 6) := by
  refine ⟨(by simp only [List.mem_singleton, forall_eq]; exact h1.bt), by simp, lam_Moves 7 hx, lam_Moves 7 hy, ?_, ?_, repr_tup (ps := [p1]) (mapM_cons h1.fv.p11 mapM_nil) (by simp only [List.mem_singleton, forall_eq]; exact h1.fv.g) (by simp)⟩
  · rw [cmp_own_eq hx hy (by decide +kernel) (by decide +kernel)]
    exact (eq_Moves 6 hx hy h1.fv h1.fv).trans (by rw [SeqAt.eqv_refl _ h1.fv.g.lay])
  · rw [cmp_own_ne hx hy (by decide +kernel) (by decide +kernel)]
    exact ne_of_eq (b := true) 7 (cd := c_Moves__ne__.1) rfl (by kernel_rfl) hx hy (by decide +kernel) (by decide +kernel) ((eq_Moves 5 hx hy h1.fv h1.fv).trans (by rw [SeqAt.eqv_refl _ h1.fv.g.lay]))
theorem row_Gives {S : Sto} {x y : Nat} {v1 : D} {p1 : PyData} (hx : S[x]? = some (.ins "Gives" [("motion", cpD S v1)])) (hy : S[y]? = some (.ins "Gives" [("motion", cpD S v1)])) (h1 : Vc S v1 p1) : RowOk S x y [v1] (.lam 7) := by
  refine ⟨(by simp only [List.mem_singleton, forall_eq]; exact h1.bt), by simp, lam_Gives 7 hx, lam_Gives 7 hy, ?_, ?_, repr_tup (ps := [p1]) (mapM_cons h1.fv.p11 mapM_nil) (by simp only [List.mem_singleton, forall_eq]; exact h1.fv.g) (by simp)⟩
  · rw [cmp_own_eq hx hy (by decide +kernel) (by decide +kernel)]
    exact (eq_Gives 6 hx hy h1.fv h1.fv).trans (by rw [SeqAt.eqv_refl _ h1.fv.g.lay])
  · rw [cmp_own_ne hx hy (by decide +kernel) (by decide +kernel)]
    exact ne_of_eq (b := true) 7 (cd := c_Gives__ne__.1) rfl (by kernel_rfl) hx hy (by decide +kernel) (by decide +kernel) ((eq_Gives 5 hx hy h1.fv h1.fv).trans (by rw [SeqAt.eqv_refl _ h1.fv.g.lay]))
theorem row_Moment {S : Sto} {x y : Nat} {v1 : D} {p1 : PyData} (hx : S[x]? = some (.ins "Moment" [("ratio", cpD S v1)])) (hy : S[y]? = some (.ins "Moment" [("ratio", cpD S v1)])) (h1 : Vc S v1 p1) : RowOk S x y [v1] (.lam 8) := by
  refine ⟨(by simp only [List.mem_singleton, forall_eq]; exact h1.bt), by simp, lam_Moment 7 hx, lam_Moment 7 hy, ?_, ?_, repr_tup (ps := [p1]) (mapM_cons h1.fv.p11 mapM_nil) (by simp only [List.mem_singleton, forall_eq]; exact h1.fv.g) (by simp)⟩
  · rw [cmp_own_eq hx hy (by decide +kernel) (by decide +kernel)]
    exact (eq_Moment 6 hx hy h1.fv h1.fv).trans (by rw [SeqAt.eqv_refl _ h1.fv.g.lay])
  · rw [cmp_own_ne hx hy (by decide +kernel) (by decide +kernel)]
    exact ne_of_eq (b := true) 7 (cd := c_Moment__ne__.1) rfl (by kernel_rfl) hx hy (by decide +kernel) (by decide +kernel) ((eq_Moment 5 hx hy h1.fv h1.fv).trans (by rw [SeqAt.eqv_refl _ h1.fv.g.lay]))
theorem row_Bends {S : Sto} {x y : Nat} {v1 : D} {p1 : PyData} (hx : S[x]? = some (.ins "Bends" [("ratio", cpD S v1)])) (hy : S[y]? = some (.ins "Bends" [("ratio", cpD S v1)])) (h1 : Vc S v1 p1) : RowOk S x y [v1] (.lam 9) := by
  refine ⟨(by simp only [List.mem_singleton, forall_eq]; exact h1.bt), by simp, lam_Bends 7 hx, lam_Bends 7 hy, ?_, ?_, repr_tup (ps := [p1]) (mapM_cons h1.fv.p11 mapM_nil) (by simp only [List.mem_singleton, forall_eq]; exact h1.fv.g) (by simp)⟩
  · rw [cmp_own_eq hx hy (by decide +kernel) (by decide +kernel)]
    exact (eq_Bends 6 hx hy h1.fv h1.fv).trans (by rw [SeqAt.eqv_refl _ h1.fv.g.lay])
  · rw [cmp_own_ne hx hy (by decide +kernel) (by decide +kernel)]
    exact ne_of_eq (b := true) 7 (cd := c_Bends__ne__.1) rfl (by kernel_rfl) hx hy (by decide +kernel) (by decide +kernel) ((eq_Bends 5 hx hy h1.fv h1.fv).trans (by rw [SeqAt.eqv_refl _ h1.fv.g.lay]))
theorem row_Loose {S : Sto} {x y : Nat} {v1 : D} {p1 : PyData} (hx : S[x]? = some (.ins "Loose" [("motion", cpD S v1)])) (hy : S[y]? = some (.ins "Loose" [("motion", cpD S v1)])) (h1 : Vc S v1 p1) : RowOk S x y [v1] (.lam 10) := by
  refine ⟨(by simp only [List.mem_singleton, forall_eq]; exact h1.bt), by simp, lam_Loose 7 hx, lam_Loose 7 hy, ?_, ?_, repr_tup (ps := [p1]) (mapM_cons h1.fv.p11 mapM_nil) (by simp only [List.mem_singleton, forall_eq]; exact h1.fv.g) (by simp)⟩
  · rw [cmp_own_eq hx hy (by decide +kernel) (by decide +kernel)]
    exact (eq_Loose 6 hx hy h1.fv h1.fv).trans (by rw [SeqAt.eqv_refl _ h1.fv.g.lay])
  · rw [cmp_own_ne hx hy (by decide +kernel) (by decide +kernel)]
    exact ne_of_eq (b := true) 7 (cd := c_Loose__ne__.1) rfl (by kernel_rfl) hx hy (by decide +kernel) (by decide +kernel) ((eq_Loose 5 hx hy h1.fv h1.fv).trans (by rw [SeqAt.eqv_refl _ h1.fv.g.lay]))
theorem row_Line {S : Sto} {x y : Nat} {v1 : D} {p1 : PyData} (hx : S[x]? = some (.ins "Line" [("pieces", cpD S v1)])) (hy : S[y]? = some (.ins "Line" [("pieces", cpD S v1)])) (h1 : Vc S v1 p1) : RowOk S x y [v1] (.lam 11) := by
  refine ⟨(by simp only [List.mem_singleton, forall_eq]; exact h1.bt), by simp, lam_Line 7 hx, lam_Line 7 hy, ?_, ?_, repr_tup (ps := [p1]) (mapM_cons h1.fv.p11 mapM_nil) (by simp only [List.mem_singleton, forall_eq]; exact h1.fv.g) (by simp)⟩
  · rw [cmp_own_eq hx hy (by decide +kernel) (by decide +kernel)]
    exact (eq_Line 6 hx hy h1.fv h1.fv).trans (by rw [SeqAt.eqv_refl _ h1.fv.g.lay])
  · rw [cmp_own_ne hx hy (by decide +kernel) (by decide +kernel)]
    exact ne_of_eq (b := true) 7 (cd := c_Line__ne__.1) rfl (by kernel_rfl) hx hy (by decide +kernel) (by decide +kernel) ((eq_Line 5 hx hy h1.fv h1.fv).trans (by rw [SeqAt.eqv_refl _ h1.fv.g.lay]))
theorem row_Paper {S : Sto} {x y : Nat} {v1 : D} {p1 : PyData} (hx : S[x]? = some (.ins "Paper" [("asked", cpD S v1)])) (hy : S[y]? = some (.ins "Paper" [("asked", cpD S v1)])) (h1 : Vc S v1 p1) : RowOk S x y [v1] (.lam 12) := by
  refine ⟨(by simp only [List.mem_singleton, forall_eq]; exact h1.bt), by simp, lam_Paper 7 hx, lam_Paper 7 hy, ?_, ?_, repr_tup (ps := [p1]) (mapM_cons h1.fv.p11 mapM_nil) (by simp only [List.mem_singleton, forall_eq]; exact h1.fv.g) (by simp)⟩
  · rw [cmp_own_eq hx hy (by decide +kernel) (by decide +kernel)]
    exact (eq_Paper 6 hx hy h1.fv h1.fv).trans (by rw [SeqAt.eqv_refl _ h1.fv.g.lay])
  · rw [cmp_own_ne hx hy (by decide +kernel) (by decide +kernel)]
    exact ne_of_eq (b := true) 7 (cd := c_Paper__ne__.1) rfl (by kernel_rfl) hx hy (by decide +kernel) (by decide +kernel) ((eq_Paper 5 hx hy h1.fv h1.fv).trans (by rw [SeqAt.eqv_refl _ h1.fv.g.lay]))
theorem row_Design {S : Sto} {x y : Nat} {v1 v2 : D} {p1 p2 : PyData} (hx : S[x]? = some (.ins "Design" [("cost", cpD S v1), ("strengths", cpD S v2)])) (hy : S[y]? = some (.ins "Design" [("cost", cpD S v1), ("strengths", cpD S v2)])) (h1 : Vc S v1 p1) (h2 : Vc S v2 p2) : RowOk S x y [v1, v2] (.lam 13) := by
  refine ⟨(by simp only [List.mem_cons, List.not_mem_nil, or_false, forall_eq_or_imp, forall_eq]; exact ⟨h1.bt, h2.bt⟩), by simp, lam_Design 7 hx, lam_Design 7 hy, ?_, ?_, repr_tup (ps := [p1, p2]) (mapM_cons h1.fv.p11 (mapM_cons h2.fv.p11 mapM_nil)) (by simp only [List.mem_cons, List.not_mem_nil, or_false, forall_eq_or_imp, forall_eq]; exact ⟨h1.fv.g, h2.fv.g⟩) (by simp)⟩
  · rw [cmp_own_eq hx hy (by decide +kernel) (by decide +kernel)]
    exact (eq_Design 6 hx hy h1.fv h1.fv h2.fv h2.fv).trans (by rw [eqv_tup (by simp only [List.mem_cons, List.not_mem_nil, or_false, forall_eq_or_imp, forall_eq]; exact ⟨h1.fv.g, h2.fv.g⟩)])
  · rw [cmp_own_ne hx hy (by decide +kernel) (by decide +kernel)]
    exact ne_of_eq (b := true) 7 (cd := c_Design__ne__.1) rfl (by kernel_rfl) hx hy (by decide +kernel) (by decide +kernel) ((eq_Design 5 hx hy h1.fv h1.fv h2.fv h2.fv).trans (by rw [eqv_tup (by simp only [List.mem_cons, List.not_mem_nil, or_false, forall_eq_or_imp, forall_eq]; exact ⟨h1.fv.g, h2.fv.g⟩)]))
theorem row_Model {S : Sto} {x y : Nat} {v1 v2 v3 v4 v5 : D} {p1 p2 p3 p4 p5 : PyData} (hx : S[x]? = some (.ins "Model" [("joints", cpD S v1), ("beams", cpD S v2), ("marks", cpD S v3), ("loads", cpD S v4), ("asks", cpD S v5), ("prices", .tup [])])) (hy : S[y]? = some (.ins "Model" [("joints", cpD S v1), ("beams", cpD S v2), ("marks", cpD S v3), ("loads", cpD S v4), ("asks", cpD S v5), ("prices", .tup [])])) (h1 : Vc S v1 p1) (h2 : Vc S v2 p2) (h3 : Vc S v3 p3) (h4 : Vc S v4 p4) (h5 : Vc S v5 p5) : RowOk S x y [v1, v2, v3, v4, v5] (.glb "_law_model_fields") := by
  refine ⟨(by simp only [List.mem_cons, List.not_mem_nil, or_false, forall_eq_or_imp, forall_eq]; exact ⟨h1.bt, h2.bt, h3.bt, h4.bt, h5.bt⟩), by simp, mfields_spec 7 hx, mfields_spec 7 hy, ?_, ?_, repr_tup (ps := [p1, p2, p3, p4, p5]) (mapM_cons h1.fv.p11 (mapM_cons h2.fv.p11 (mapM_cons h3.fv.p11 (mapM_cons h4.fv.p11 (mapM_cons h5.fv.p11 mapM_nil))))) (by simp only [List.mem_cons, List.not_mem_nil, or_false, forall_eq_or_imp, forall_eq]; exact ⟨h1.fv.g, h2.fv.g, h3.fv.g, h4.fv.g, h5.fv.g⟩) (by simp)⟩
  · rw [cmp_own_eq hx hy (by decide +kernel) (by decide +kernel)]
    exact (eq_Model 6 hx hy h1.fv h1.fv h2.fv h2.fv h3.fv h3.fv h4.fv h4.fv h5.fv h5.fv fv_nil fv_nil).trans (by rw [eqv_tup (by simp only [List.mem_cons, List.not_mem_nil, or_false, forall_eq_or_imp, forall_eq]; exact ⟨h1.fv.g, h2.fv.g, h3.fv.g, h4.fv.g, h5.fv.g, gd_nil⟩)])
  · rw [cmp_own_ne hx hy (by decide +kernel) (by decide +kernel)]
    exact ne_of_eq (b := true) 7 (cd := c_Model__ne__.1) rfl (by kernel_rfl) hx hy (by decide +kernel) (by decide +kernel) ((eq_Model 5 hx hy h1.fv h1.fv h2.fv h2.fv h3.fv h3.fv h4.fv h4.fv h5.fv h5.fv fv_nil fv_nil).trans (by rw [eqv_tup (by simp only [List.mem_cons, List.not_mem_nil, or_false, forall_eq_or_imp, forall_eq]; exact ⟨h1.fv.g, h2.fv.g, h3.fv.g, h4.fv.g, h5.fv.g, gd_nil⟩)]))
theorem row_Endless {S : Sto} {x y : Nat} (hx : S[x]? = some (.ins "Endless" [])) (hy : S[y]? = some (.ins "Endless" []))  : RowOk S x y [] (.lam 14) := by
  refine ⟨(by simp), by simp, lam_Endless 7 hx, lam_Endless 7 hy, ?_, ?_, repr_tup (ps := []) mapM_nil (by simp) (by simp)⟩
  · rw [cmp_own_eq hx hy (by decide +kernel) (by decide +kernel)]
    exact (eq_Endless 6 hy (by decide +kernel)).trans (by rw [decide_eq_true rfl])
  · rw [cmp_own_ne hx hy (by decide +kernel) (by decide +kernel)]
    exact ne_of_eq (b := true) 7 (cd := c_Endless__ne__.1) rfl (by kernel_rfl) hx hy (by decide +kernel) (by decide +kernel) ((eq_Endless 5 hy (by decide +kernel)).trans (by rw [decide_eq_true rfl]))
theorem eqd_all (k : Nat) {S : Sto} {x y : Nat} {fs : List (Str × D)} {c c' : Str} (hc0 : cls90.contains c = true) (hy : S[y]? = some (.ins c' fs)) (hc : cls90.contains c' = true) (hne : c' ≠ c) : (lv (k + 2)).mc c "__eq__" [.loc x, .loc y] S = .ok (.bl false) S := by
  have h : c = "Stresses" ∨ c = "Stills" ∨ c = "Carries" ∨ c = "Yields" ∨ c = "Factor" ∨ c = "Endless" ∨ c = "Range" ∨ c = "Moves" ∨ c = "Gives" ∨ c = "Moment" ∨ c = "Bends" ∨ c = "Loose" ∨ c = "Line" ∨ c = "Design" ∨ c = "Model" ∨ c = "Paper" := by
    have := List.contains_iff_mem.mp hc0
    simpa [cls90, or_assoc] using this
  rcases h with rfl | rfl | rfl | rfl | rfl | rfl | rfl | rfl | rfl | rfl | rfl | rfl | rfl | rfl | rfl | rfl
  · exact eqd_Stresses k hy hc hne
  · exact eqd_Stills k hy hc hne
  · exact eqd_Carries k hy hc hne
  · exact eqd_Yields k hy hc hne
  · exact eqd_Factor k hy hc hne
  · exact (eq_Endless k hy hc).trans (by rw [decide_eq_false hne])
  · exact eqd_Range k hy hc hne
  · exact eqd_Moves k hy hc hne
  · exact eqd_Gives k hy hc hne
  · exact eqd_Moment k hy hc hne
  · exact eqd_Bends k hy hc hne
  · exact eqd_Loose k hy hc hne
  · exact eqd_Line k hy hc hne
  · exact eqd_Design k hy hc hne
  · exact eqd_Model k hy hc hne
  · exact eqd_Paper k hy hc hne
theorem ne_lk {c : Str} (hc0 : cls90.contains c = true) : mtT.lookup (c, ("__ne__" : Str)) = some ⟨["self", "other"], ["self", "other"], Cs.cons (C.ret (Oe.some (E.not (E.cmp CmpOp.Eq (E.var 0) (E.var 1))))) Cs.nil, none⟩ := by
  have h : c = "Stresses" ∨ c = "Stills" ∨ c = "Carries" ∨ c = "Yields" ∨ c = "Factor" ∨ c = "Endless" ∨ c = "Range" ∨ c = "Moves" ∨ c = "Gives" ∨ c = "Moment" ∨ c = "Bends" ∨ c = "Loose" ∨ c = "Line" ∨ c = "Design" ∨ c = "Model" ∨ c = "Paper" := by
    have := List.contains_iff_mem.mp hc0
    simpa [cls90, or_assoc] using this
  rcases h with rfl | rfl | rfl | rfl | rfl | rfl | rfl | rfl | rfl | rfl | rfl | rfl | rfl | rfl | rfl | rfl
  · kernel_rfl
  · kernel_rfl
  · kernel_rfl
  · kernel_rfl
  · kernel_rfl
  · kernel_rfl
  · kernel_rfl
  · kernel_rfl
  · kernel_rfl
  · kernel_rfl
  · kernel_rfl
  · kernel_rfl
  · kernel_rfl
  · kernel_rfl
  · kernel_rfl
  · kernel_rfl
end K90

namespace K90
open PySem PySem.Spec PyProof.Rows L2 PV
/-! ### the unlike pairs -/
def PI (c : Str) (fs gs : List (Str × D)) : Prop := cls90.contains c = true ∧ ∀ (k : Nat) (S : Sto) (a b : Nat), S[a]? = some (.ins c fs) → S[b]? = some (.ins c gs) → (lv (k + 2)).mc c "__eq__" [.loc a, .loc b] S = .ok (.bl false) S
def PairLk (S : Sto) (x : D) : Prop := ∃ c fs gs a b, PI c fs gs ∧ x = .tup [.loc a, .loc b] ∧ S[a]? = some (.ins c fs) ∧ S[b]? = some (.ins c gs)
theorem get_left {S T : Sto} {n : Nat} {o : O} (h : S[n]? = some o) : (S ++ T)[n]? = some o := by
  rw [List.getElem?_append_left (List.getElem?_eq_some_iff.mp h).1]
  exact h
theorem PairLk.app {S T : Sto} {x : D} (h : PairLk S x) : PairLk (S ++ T) x := by
  obtain ⟨c, fs, gs, a, b, p, e, h1, h2⟩ := h
  exact ⟨c, fs, gs, a, b, p, e, get_left h1, get_left h2⟩
def EvI (M : Sem) (e : E) (c : Str) (fs : List (Str × D)) : Prop := ∀ σ S, evE M e σ S = .ok (.loc S.length) (S ++ [.ins c fs])
theorem evI_of {M : Sem} {es : Es} {c : Str} {vs : List D} {fs : List (Str × D)} (h : ∀ σ S, evEs M es σ S = .ok vs S) (m : ∀ S, MkS M S c vs fs) : EvI M (.make c es) c fs := fun σ S => by
  have e := ev_make (h σ) (m S) []
  rw [List.append_nil] at e
  exact e
def PairsEv (M : Sem) (es : Es) (n : Nat) : Prop := ∀ σ S, ∃ T ds, evEs M es σ S = .ok ds (S ++ T) ∧ ds.length = n ∧ ∀ x ∈ ds, PairLk (S ++ T) x
theorem pairs_nil {M : Sem} : PairsEv M .nil 0 := fun σ S => ⟨[], [], by rw [evEs, List.append_nil], rfl, fun x hx => (by cases hx)⟩
theorem pairs_cons {M : Sem} {e1 e2 : E} {es : Es} {n : Nat} {c : Str} {fs gs : List (Str × D)} (p : PI c fs gs) (h1 : EvI M e1 c fs) (h2 : EvI M e2 c gs) (h : PairsEv M es n) : PairsEv M (.cons (.tup (.cons e1 (.cons e2 .nil))) es) (n + 1) := fun σ S => by
  obtain ⟨T, ds, e, hl, hx⟩ := h σ (S ++ [.ins c fs] ++ [.ins c gs])
  refine ⟨[.ins c fs, .ins c gs] ++ T, .tup [.loc S.length, .loc (S.length + 1)] :: ds, ?_, by rw [List.length_cons, hl], ?_⟩
  · rw [evEs, evE]
    simp only [evEs]
    have h2' := h2 σ (S ++ [O.ins c fs])
    rw [h1 σ S, Res.bind_ok, h2']
    simp only [Res.bind_ok]
    rw [if_pos (by simp [mostLen]), Res.bind_ok, e]
    simp
  · intro x hm
    have e3 : S ++ ([.ins c fs, .ins c gs] ++ T) = S ++ [.ins c fs] ++ [.ins c gs] ++ T := by simp
    rw [e3]
    cases hm with
    | head =>
      refine ⟨c, fs, gs, S.length, S.length + 1, p, rfl, get_left (get_left get_last), get_left ?_⟩
      have := get_last (S := S ++ [.ins c fs]) (a := .ins c gs)
      simpa using this
    | tail _ hm => exact hx x hm
def UnSt (S0 S : Sto) (d : D) (N : Nat) : Prop := ∃ r ds T, S = S0 ++ T ∧ d = .loc r ∧ S[r]? = some (.lst ds) ∧ ds.length = N ∧ ∀ x ∈ ds, PairLk S x
theorem un_first {M : Sem} {es : Es} {n : Nat} {σ : En} {S : Sto} (h : PairsEv M es n) (hn : n ≤ 100) : ∃ d S', evE M (.lst es) σ S = .ok d S' ∧ UnSt S S' d n := by
  obtain ⟨T, ds, e, hl, hx⟩ := h σ S
  refine ⟨.loc (S ++ T).length, S ++ T ++ [.lst ds], ?_, (S ++ T).length, ds, T ++ [.lst ds], by simp, rfl, get_last, hl, fun x hm => (hx x hm).app⟩
  rw [evE, e, Res.bind_ok]
  rw [if_pos (Nat.le_trans (by rw [hl]; exact hn) (by decide))]
  rfl
theorem un_step {M : Sem} {es : Es} {n N : Nat} {d : D} {S0 S : Sto} (u : UnSt S0 S d N) (h : PairsEv M es n) (hn : decide (N + n ≤ 100) = true) : ∃ d' S', evE M (.bin .Add (.var 0) (.lst es)) [some d] S = .ok d' S' ∧ UnSt S0 S' d' (N + n) := by
  obtain ⟨r, ds, T, e1, e2, e3, e4, e5⟩ := u
  have hn := of_decide_eq_true hn
  obtain ⟨T2, ds2, f1, f2, f3⟩ := h [some d] S
  have g1 : (S ++ T2 ++ [O.lst ds2])[r]? = some (.lst ds) := get_left (get_left e3)
  have g2 : (S ++ T2 ++ [O.lst ds2])[(S ++ T2).length]? = some (.lst ds2) := get_last
  refine ⟨.loc (S ++ T2 ++ [O.lst ds2]).length, S ++ T2 ++ [O.lst ds2] ++ [O.lst (ds ++ ds2)], ?_, _, ds ++ ds2, T ++ T2 ++ [O.lst ds2] ++ [O.lst (ds ++ ds2)], by rw [e1]; simp, rfl, get_last, by rw [List.length_append, e4, f2], fun x hm => ?_⟩
  · rw [evE, evE]
    simp only [List.getElem?_cons_zero, Res.bind_ok]
    rw [evE, f1, Res.bind_ok]
    rw [if_pos (Nat.le_trans (by rw [f2]; omega) (show 100 ≤ mostLen by decide))]
    unfold newO
    rw [Res.bind_ok, e2]
    unfold binD
    dsimp only
    rw [g1, g2]
    dsimp only
    rw [if_pos (Nat.le_trans (by rw [e4, f2]; exact hn) (show 100 ≤ mostLen by decide))]
    rfl
  · rcases List.mem_append.mp hm with hm | hm
    · exact (e5 x hm).app.app.app
    · exact (f3 x hm).app.app
theorem gd_i0 : Gd (.int 0) := gd_int (by decide +kernel) (by decide +kernel) (by decide +kernel)
theorem gd_i1 : Gd (.int 1) := gd_int (by decide +kernel) (by decide +kernel) (by decide +kernel)
theorem gd_i2 : Gd (.int 2) := gd_int (by decide +kernel) (by decide +kernel) (by decide +kernel)
theorem gd_i3 : Gd (.int 3) := gd_int (by decide +kernel) (by decide +kernel) (by decide +kernel)
theorem gd_i4 : Gd (.int 4) := gd_int (by decide +kernel) (by decide +kernel) (by decide +kernel)
theorem gd_i5 : Gd (.int 5) := gd_int (by decide +kernel) (by decide +kernel) (by decide +kernel)
theorem gd_t1 : Gd (.tuple [.int 1]) := ⟨by decide +kernel, by decide +kernel, by decide +kernel, by decide +kernel, by decide +kernel⟩
theorem bt_t1 {S : Sto} : Bt S (.tup [.int 1]) := ⟨"tuple", rfl, by decide, rfl⟩
theorem pi_0 : PI "Stresses" [("rows", .int 1)] [("rows", .int 0)] := ⟨by decide +kernel, fun k S a b hx hy => (eq_Stresses k hx hy (p1 := .int 1) (q1 := .int 0) (fv_int gd_i1) (fv_int gd_i0)).trans (by rw [show PyData.eqv _ _ = false from by decide +kernel])⟩
theorem pi_1 : PI "Stills" [("rows", .int 1)] [("rows", .int 0)] := ⟨by decide +kernel, fun k S a b hx hy => (eq_Stills k hx hy (p1 := .int 1) (q1 := .int 0) (fv_int gd_i1) (fv_int gd_i0)).trans (by rw [show PyData.eqv _ _ = false from by decide +kernel])⟩
theorem pi_2 : PI "Carries" [("forces", .int 1)] [("forces", .int 0)] := ⟨by decide +kernel, fun k S a b hx hy => (eq_Carries k hx hy (p1 := .int 1) (q1 := .int 0) (fv_int gd_i1) (fv_int gd_i0)).trans (by rw [show PyData.eqv _ _ = false from by decide +kernel])⟩
theorem pi_3 : PI "Yields" [("motion", .int 1), ("kinks", .int 2)] [("motion", .int 0), ("kinks", .int 2)] := ⟨by decide +kernel, fun k S a b hx hy => (eq_Yields k hx hy (p1 := .int 1) (q1 := .int 0) (p2 := .int 2) (q2 := .int 2) (fv_int gd_i1) (fv_int gd_i0) (fv_int gd_i2) (fv_int gd_i2)).trans (by rw [show PyData.eqv _ _ = false from by decide +kernel])⟩
theorem pi_4 : PI "Yields" [("motion", .int 1), ("kinks", .int 2)] [("motion", .int 1), ("kinks", .int 0)] := ⟨by decide +kernel, fun k S a b hx hy => (eq_Yields k hx hy (p1 := .int 1) (q1 := .int 1) (p2 := .int 2) (q2 := .int 0) (fv_int gd_i1) (fv_int gd_i1) (fv_int gd_i2) (fv_int gd_i0)).trans (by rw [show PyData.eqv _ _ = false from by decide +kernel])⟩
theorem pi_5 : PI "Factor" [("ratio", .int 1)] [("ratio", .int 0)] := ⟨by decide +kernel, fun k S a b hx hy => (eq_Factor k hx hy (p1 := .int 1) (q1 := .int 0) (fv_int gd_i1) (fv_int gd_i0)).trans (by rw [show PyData.eqv _ _ = false from by decide +kernel])⟩
theorem pi_6 : PI "Range" [("low", .int 1), ("high", .int 2)] [("low", .int 0), ("high", .int 2)] := ⟨by decide +kernel, fun k S a b hx hy => (eq_Range k hx hy (p1 := .int 1) (q1 := .int 0) (p2 := .int 2) (q2 := .int 2) (fv_int gd_i1) (fv_int gd_i0) (fv_int gd_i2) (fv_int gd_i2)).trans (by rw [show PyData.eqv _ _ = false from by decide +kernel])⟩
theorem pi_7 : PI "Range" [("low", .int 1), ("high", .int 2)] [("low", .int 1), ("high", .int 0)] := ⟨by decide +kernel, fun k S a b hx hy => (eq_Range k hx hy (p1 := .int 1) (q1 := .int 1) (p2 := .int 2) (q2 := .int 0) (fv_int gd_i1) (fv_int gd_i1) (fv_int gd_i2) (fv_int gd_i0)).trans (by rw [show PyData.eqv _ _ = false from by decide +kernel])⟩
theorem pi_8 : PI "Moves" [("forces", .int 1)] [("forces", .int 0)] := ⟨by decide +kernel, fun k S a b hx hy => (eq_Moves k hx hy (p1 := .int 1) (q1 := .int 0) (fv_int gd_i1) (fv_int gd_i0)).trans (by rw [show PyData.eqv _ _ = false from by decide +kernel])⟩
theorem pi_9 : PI "Gives" [("motion", .int 1)] [("motion", .int 0)] := ⟨by decide +kernel, fun k S a b hx hy => (eq_Gives k hx hy (p1 := .int 1) (q1 := .int 0) (fv_int gd_i1) (fv_int gd_i0)).trans (by rw [show PyData.eqv _ _ = false from by decide +kernel])⟩
theorem pi_10 : PI "Moment" [("ratio", .int 1)] [("ratio", .int 0)] := ⟨by decide +kernel, fun k S a b hx hy => (eq_Moment k hx hy (p1 := .int 1) (q1 := .int 0) (fv_int gd_i1) (fv_int gd_i0)).trans (by rw [show PyData.eqv _ _ = false from by decide +kernel])⟩
theorem pi_11 : PI "Bends" [("ratio", .int 1)] [("ratio", .int 0)] := ⟨by decide +kernel, fun k S a b hx hy => (eq_Bends k hx hy (p1 := .int 1) (q1 := .int 0) (fv_int gd_i1) (fv_int gd_i0)).trans (by rw [show PyData.eqv _ _ = false from by decide +kernel])⟩
theorem pi_12 : PI "Loose" [("motion", .int 1)] [("motion", .int 0)] := ⟨by decide +kernel, fun k S a b hx hy => (eq_Loose k hx hy (p1 := .int 1) (q1 := .int 0) (fv_int gd_i1) (fv_int gd_i0)).trans (by rw [show PyData.eqv _ _ = false from by decide +kernel])⟩
theorem pi_13 : PI "Line" [("pieces", .int 1)] [("pieces", .int 0)] := ⟨by decide +kernel, fun k S a b hx hy => (eq_Line k hx hy (p1 := .int 1) (q1 := .int 0) (fv_int gd_i1) (fv_int gd_i0)).trans (by rw [show PyData.eqv _ _ = false from by decide +kernel])⟩
theorem pi_14 : PI "Paper" [("asked", .int 1)] [("asked", .int 0)] := ⟨by decide +kernel, fun k S a b hx hy => (eq_Paper k hx hy (p1 := .int 1) (q1 := .int 0) (fv_int gd_i1) (fv_int gd_i0)).trans (by rw [show PyData.eqv _ _ = false from by decide +kernel])⟩
theorem pi_15 : PI "Model" [("joints", .int 1), ("beams", .int 2), ("marks", .int 3), ("loads", .int 4), ("asks", .int 5), ("prices", .tup [])] [("joints", .int 0), ("beams", .int 2), ("marks", .int 3), ("loads", .int 4), ("asks", .int 5), ("prices", .tup [])] := ⟨by decide +kernel, fun k S a b hx hy => (eq_Model k hx hy (p1 := .int 1) (q1 := .int 0) (p2 := .int 2) (q2 := .int 2) (p3 := .int 3) (q3 := .int 3) (p4 := .int 4) (q4 := .int 4) (p5 := .int 5) (q5 := .int 5) (p6 := .tuple []) (q6 := .tuple []) (fv_int gd_i1) (fv_int gd_i0) (fv_int gd_i2) (fv_int gd_i2) (fv_int gd_i3) (fv_int gd_i3) (fv_int gd_i4) (fv_int gd_i4) (fv_int gd_i5) (fv_int gd_i5) (fv_nil) (fv_nil)).trans (by rw [show PyData.eqv _ _ = false from by decide +kernel])⟩
theorem pi_16 : PI "Model" [("joints", .int 1), ("beams", .int 2), ("marks", .int 3), ("loads", .int 4), ("asks", .int 5), ("prices", .tup [])] [("joints", .int 1), ("beams", .int 0), ("marks", .int 3), ("loads", .int 4), ("asks", .int 5), ("prices", .tup [])] := ⟨by decide +kernel, fun k S a b hx hy => (eq_Model k hx hy (p1 := .int 1) (q1 := .int 1) (p2 := .int 2) (q2 := .int 0) (p3 := .int 3) (q3 := .int 3) (p4 := .int 4) (q4 := .int 4) (p5 := .int 5) (q5 := .int 5) (p6 := .tuple []) (q6 := .tuple []) (fv_int gd_i1) (fv_int gd_i1) (fv_int gd_i2) (fv_int gd_i0) (fv_int gd_i3) (fv_int gd_i3) (fv_int gd_i4) (fv_int gd_i4) (fv_int gd_i5) (fv_int gd_i5) (fv_nil) (fv_nil)).trans (by rw [show PyData.eqv _ _ = false from by decide +kernel])⟩
theorem pi_17 : PI "Model" [("joints", .int 1), ("beams", .int 2), ("marks", .int 3), ("loads", .int 4), ("asks", .int 5), ("prices", .tup [])] [("joints", .int 1), ("beams", .int 2), ("marks", .int 0), ("loads", .int 4), ("asks", .int 5), ("prices", .tup [])] := ⟨by decide +kernel, fun k S a b hx hy => (eq_Model k hx hy (p1 := .int 1) (q1 := .int 1) (p2 := .int 2) (q2 := .int 2) (p3 := .int 3) (q3 := .int 0) (p4 := .int 4) (q4 := .int 4) (p5 := .int 5) (q5 := .int 5) (p6 := .tuple []) (q6 := .tuple []) (fv_int gd_i1) (fv_int gd_i1) (fv_int gd_i2) (fv_int gd_i2) (fv_int gd_i3) (fv_int gd_i0) (fv_int gd_i4) (fv_int gd_i4) (fv_int gd_i5) (fv_int gd_i5) (fv_nil) (fv_nil)).trans (by rw [show PyData.eqv _ _ = false from by decide +kernel])⟩
theorem pi_18 : PI "Design" [("cost", .int 1), ("strengths", .int 2)] [("cost", .int 0), ("strengths", .int 2)] := ⟨by decide +kernel, fun k S a b hx hy => (eq_Design k hx hy (p1 := .int 1) (q1 := .int 0) (p2 := .int 2) (q2 := .int 2) (fv_int gd_i1) (fv_int gd_i0) (fv_int gd_i2) (fv_int gd_i2)).trans (by rw [show PyData.eqv _ _ = false from by decide +kernel])⟩
theorem pi_19 : PI "Design" [("cost", .int 1), ("strengths", .int 2)] [("cost", .int 1), ("strengths", .int 0)] := ⟨by decide +kernel, fun k S a b hx hy => (eq_Design k hx hy (p1 := .int 1) (q1 := .int 1) (p2 := .int 2) (q2 := .int 0) (fv_int gd_i1) (fv_int gd_i1) (fv_int gd_i2) (fv_int gd_i0)).trans (by rw [show PyData.eqv _ _ = false from by decide +kernel])⟩
theorem pi_20 : PI "Model" [("joints", .int 1), ("beams", .int 2), ("marks", .int 3), ("loads", .int 4), ("asks", .int 5), ("prices", .tup [])] [("joints", .int 1), ("beams", .int 2), ("marks", .int 3), ("loads", .int 4), ("asks", .int 5), ("prices", .tup [.int 1])] := ⟨by decide +kernel, fun k S a b hx hy => (eq_Model k hx hy (p1 := .int 1) (q1 := .int 1) (p2 := .int 2) (q2 := .int 2) (p3 := .int 3) (q3 := .int 3) (p4 := .int 4) (q4 := .int 4) (p5 := .int 5) (q5 := .int 5) (p6 := .tuple []) (q6 := .tuple [.int 1]) (fv_int gd_i1) (fv_int gd_i1) (fv_int gd_i2) (fv_int gd_i2) (fv_int gd_i3) (fv_int gd_i3) (fv_int gd_i4) (fv_int gd_i4) (fv_int gd_i5) (fv_int gd_i5) (fv_nil) (⟨rfl, gd_t1⟩)).trans (by rw [show PyData.eqv _ _ = false from by decide +kernel])⟩
theorem pi_21 : PI "Model" [("joints", .int 1), ("beams", .int 2), ("marks", .int 3), ("loads", .int 4), ("asks", .int 5), ("prices", .tup [])] [("joints", .int 1), ("beams", .int 2), ("marks", .int 3), ("loads", .int 0), ("asks", .int 5), ("prices", .tup [])] := ⟨by decide +kernel, fun k S a b hx hy => (eq_Model k hx hy (p1 := .int 1) (q1 := .int 1) (p2 := .int 2) (q2 := .int 2) (p3 := .int 3) (q3 := .int 3) (p4 := .int 4) (q4 := .int 0) (p5 := .int 5) (q5 := .int 5) (p6 := .tuple []) (q6 := .tuple []) (fv_int gd_i1) (fv_int gd_i1) (fv_int gd_i2) (fv_int gd_i2) (fv_int gd_i3) (fv_int gd_i3) (fv_int gd_i4) (fv_int gd_i0) (fv_int gd_i5) (fv_int gd_i5) (fv_nil) (fv_nil)).trans (by rw [show PyData.eqv _ _ = false from by decide +kernel])⟩
theorem pi_22 : PI "Model" [("joints", .int 1), ("beams", .int 2), ("marks", .int 3), ("loads", .int 4), ("asks", .int 5), ("prices", .tup [])] [("joints", .int 1), ("beams", .int 2), ("marks", .int 3), ("loads", .int 4), ("asks", .int 0), ("prices", .tup [])] := ⟨by decide +kernel, fun k S a b hx hy => (eq_Model k hx hy (p1 := .int 1) (q1 := .int 1) (p2 := .int 2) (q2 := .int 2) (p3 := .int 3) (q3 := .int 3) (p4 := .int 4) (q4 := .int 4) (p5 := .int 5) (q5 := .int 0) (p6 := .tuple []) (q6 := .tuple []) (fv_int gd_i1) (fv_int gd_i1) (fv_int gd_i2) (fv_int gd_i2) (fv_int gd_i3) (fv_int gd_i3) (fv_int gd_i4) (fv_int gd_i4) (fv_int gd_i5) (fv_int gd_i0) (fv_nil) (fv_nil)).trans (by rw [show PyData.eqv _ _ = false from by decide +kernel])⟩
theorem unlike_spec {S : Sto} : ∃ r ds T, (lv 8).cl "_law_unlike" [] S = .ok (.loc r) (S ++ T) ∧ (S ++ T)[r]? = some (.lst ds) ∧ ds.length ≤ 100 ∧ ∀ x ∈ ds, PairLk (S ++ T) x := by
  obtain ⟨d0, S0, e0, u0⟩ := un_first (M := semL none false (lv 7)) (σ := [none]) (S := S) (pairs_cons pi_0 (evI_of (vs := [.int 1]) (fun σ S => by kernel_rfl) (fun S => mks_Stresses 4 (bt_int (i := 1)))) (evI_of (vs := [.int 0]) (fun σ S => by kernel_rfl) (fun S => mks_Stresses 4 (bt_int (i := 0)))) (pairs_cons pi_1 (evI_of (vs := [.int 1]) (fun σ S => by kernel_rfl) (fun S => mks_Stills 4 (bt_int (i := 1)))) (evI_of (vs := [.int 0]) (fun σ S => by kernel_rfl) (fun S => mks_Stills 4 (bt_int (i := 0)))) (pairs_cons pi_2 (evI_of (vs := [.int 1]) (fun σ S => by kernel_rfl) (fun S => mks_Carries 4 (bt_int (i := 1)))) (evI_of (vs := [.int 0]) (fun σ S => by kernel_rfl) (fun S => mks_Carries 4 (bt_int (i := 0)))) (pairs_cons pi_3 (evI_of (vs := [.int 1, .int 2]) (fun σ S => by kernel_rfl) (fun S => mks_Yields 4 (bt_int (i := 1)) (bt_int (i := 2)))) (evI_of (vs := [.int 0, .int 2]) (fun σ S => by kernel_rfl) (fun S => mks_Yields 4 (bt_int (i := 0)) (bt_int (i := 2)))) (pairs_cons pi_4 (evI_of (vs := [.int 1, .int 2]) (fun σ S => by kernel_rfl) (fun S => mks_Yields 4 (bt_int (i := 1)) (bt_int (i := 2)))) (evI_of (vs := [.int 1, .int 0]) (fun σ S => by kernel_rfl) (fun S => mks_Yields 4 (bt_int (i := 1)) (bt_int (i := 0)))) pairs_nil))))) (by decide)
  obtain ⟨d1, S1, e1, u1⟩ := un_step (M := semL none false (lv 7)) u0 (pairs_cons pi_5 (evI_of (vs := [.int 1]) (fun σ S => by kernel_rfl) (fun S => mks_Factor 4 (bt_int (i := 1)))) (evI_of (vs := [.int 0]) (fun σ S => by kernel_rfl) (fun S => mks_Factor 4 (bt_int (i := 0)))) (pairs_cons pi_6 (evI_of (vs := [.int 1, .int 2]) (fun σ S => by kernel_rfl) (fun S => mks_Range 4 (bt_int (i := 1)) (bt_int (i := 2)))) (evI_of (vs := [.int 0, .int 2]) (fun σ S => by kernel_rfl) (fun S => mks_Range 4 (bt_int (i := 0)) (bt_int (i := 2)))) (pairs_cons pi_7 (evI_of (vs := [.int 1, .int 2]) (fun σ S => by kernel_rfl) (fun S => mks_Range 4 (bt_int (i := 1)) (bt_int (i := 2)))) (evI_of (vs := [.int 1, .int 0]) (fun σ S => by kernel_rfl) (fun S => mks_Range 4 (bt_int (i := 1)) (bt_int (i := 0)))) (pairs_cons pi_8 (evI_of (vs := [.int 1]) (fun σ S => by kernel_rfl) (fun S => mks_Moves 4 (bt_int (i := 1)))) (evI_of (vs := [.int 0]) (fun σ S => by kernel_rfl) (fun S => mks_Moves 4 (bt_int (i := 0)))) (pairs_cons pi_9 (evI_of (vs := [.int 1]) (fun σ S => by kernel_rfl) (fun S => mks_Gives 4 (bt_int (i := 1)))) (evI_of (vs := [.int 0]) (fun σ S => by kernel_rfl) (fun S => mks_Gives 4 (bt_int (i := 0)))) pairs_nil))))) (by decide)
  obtain ⟨d2, S2, e2, u2⟩ := un_step (M := semL none false (lv 7)) u1 (pairs_cons pi_10 (evI_of (vs := [.int 1]) (fun σ S => by kernel_rfl) (fun S => mks_Moment 4 (bt_int (i := 1)))) (evI_of (vs := [.int 0]) (fun σ S => by kernel_rfl) (fun S => mks_Moment 4 (bt_int (i := 0)))) (pairs_cons pi_11 (evI_of (vs := [.int 1]) (fun σ S => by kernel_rfl) (fun S => mks_Bends 4 (bt_int (i := 1)))) (evI_of (vs := [.int 0]) (fun σ S => by kernel_rfl) (fun S => mks_Bends 4 (bt_int (i := 0)))) (pairs_cons pi_12 (evI_of (vs := [.int 1]) (fun σ S => by kernel_rfl) (fun S => mks_Loose 4 (bt_int (i := 1)))) (evI_of (vs := [.int 0]) (fun σ S => by kernel_rfl) (fun S => mks_Loose 4 (bt_int (i := 0)))) (pairs_cons pi_13 (evI_of (vs := [.int 1]) (fun σ S => by kernel_rfl) (fun S => mks_Line 4 (bt_int (i := 1)))) (evI_of (vs := [.int 0]) (fun σ S => by kernel_rfl) (fun S => mks_Line 4 (bt_int (i := 0)))) (pairs_cons pi_14 (evI_of (vs := [.int 1]) (fun σ S => by kernel_rfl) (fun S => mks_Paper 4 (bt_int (i := 1)))) (evI_of (vs := [.int 0]) (fun σ S => by kernel_rfl) (fun S => mks_Paper 4 (bt_int (i := 0)))) pairs_nil))))) (by decide)
  obtain ⟨d3, S3, e3, u3⟩ := un_step (M := semL none false (lv 7)) u2 (pairs_cons pi_15 (evI_of (vs := [.int 1, .int 2, .int 3, .int 4, .int 5]) (fun σ S => by kernel_rfl) (fun S => mks_Model5 4 (bt_int (i := 1)) (bt_int (i := 2)) (bt_int (i := 3)) (bt_int (i := 4)) (bt_int (i := 5)))) (evI_of (vs := [.int 0, .int 2, .int 3, .int 4, .int 5]) (fun σ S => by kernel_rfl) (fun S => mks_Model5 4 (bt_int (i := 0)) (bt_int (i := 2)) (bt_int (i := 3)) (bt_int (i := 4)) (bt_int (i := 5)))) (pairs_cons pi_16 (evI_of (vs := [.int 1, .int 2, .int 3, .int 4, .int 5]) (fun σ S => by kernel_rfl) (fun S => mks_Model5 4 (bt_int (i := 1)) (bt_int (i := 2)) (bt_int (i := 3)) (bt_int (i := 4)) (bt_int (i := 5)))) (evI_of (vs := [.int 1, .int 0, .int 3, .int 4, .int 5]) (fun σ S => by kernel_rfl) (fun S => mks_Model5 4 (bt_int (i := 1)) (bt_int (i := 0)) (bt_int (i := 3)) (bt_int (i := 4)) (bt_int (i := 5)))) (pairs_cons pi_17 (evI_of (vs := [.int 1, .int 2, .int 3, .int 4, .int 5]) (fun σ S => by kernel_rfl) (fun S => mks_Model5 4 (bt_int (i := 1)) (bt_int (i := 2)) (bt_int (i := 3)) (bt_int (i := 4)) (bt_int (i := 5)))) (evI_of (vs := [.int 1, .int 2, .int 0, .int 4, .int 5]) (fun σ S => by kernel_rfl) (fun S => mks_Model5 4 (bt_int (i := 1)) (bt_int (i := 2)) (bt_int (i := 0)) (bt_int (i := 4)) (bt_int (i := 5)))) pairs_nil))) (by decide)
  obtain ⟨d4, S4, e4, u4⟩ := un_step (M := semL none false (lv 7)) u3 (pairs_cons pi_18 (evI_of (vs := [.int 1, .int 2]) (fun σ S => by kernel_rfl) (fun S => mks_Design 4 (bt_int (i := 1)) (bt_int (i := 2)))) (evI_of (vs := [.int 0, .int 2]) (fun σ S => by kernel_rfl) (fun S => mks_Design 4 (bt_int (i := 0)) (bt_int (i := 2)))) (pairs_cons pi_19 (evI_of (vs := [.int 1, .int 2]) (fun σ S => by kernel_rfl) (fun S => mks_Design 4 (bt_int (i := 1)) (bt_int (i := 2)))) (evI_of (vs := [.int 1, .int 0]) (fun σ S => by kernel_rfl) (fun S => mks_Design 4 (bt_int (i := 1)) (bt_int (i := 0)))) (pairs_cons pi_20 (evI_of (vs := [.int 1, .int 2, .int 3, .int 4, .int 5]) (fun σ S => by kernel_rfl) (fun S => mks_Model5 4 (bt_int (i := 1)) (bt_int (i := 2)) (bt_int (i := 3)) (bt_int (i := 4)) (bt_int (i := 5)))) (evI_of (vs := [.int 1, .int 2, .int 3, .int 4, .int 5, .tup [.int 1]]) (fun σ S => by kernel_rfl) (fun S => mks_Model6 4 (bt_int (i := 1)) (bt_int (i := 2)) (bt_int (i := 3)) (bt_int (i := 4)) (bt_int (i := 5)) (bt_t1))) pairs_nil))) (by decide)
  obtain ⟨d5, S5, e5, u5⟩ := un_step (M := semL none false (lv 7)) u4 (pairs_cons pi_21 (evI_of (vs := [.int 1, .int 2, .int 3, .int 4, .int 5]) (fun σ S => by kernel_rfl) (fun S => mks_Model5 4 (bt_int (i := 1)) (bt_int (i := 2)) (bt_int (i := 3)) (bt_int (i := 4)) (bt_int (i := 5)))) (evI_of (vs := [.int 1, .int 2, .int 3, .int 0, .int 5]) (fun σ S => by kernel_rfl) (fun S => mks_Model5 4 (bt_int (i := 1)) (bt_int (i := 2)) (bt_int (i := 3)) (bt_int (i := 0)) (bt_int (i := 5)))) (pairs_cons pi_22 (evI_of (vs := [.int 1, .int 2, .int 3, .int 4, .int 5]) (fun σ S => by kernel_rfl) (fun S => mks_Model5 4 (bt_int (i := 1)) (bt_int (i := 2)) (bt_int (i := 3)) (bt_int (i := 4)) (bt_int (i := 5)))) (evI_of (vs := [.int 1, .int 2, .int 3, .int 4, .int 0]) (fun σ S => by kernel_rfl) (fun S => mks_Model5 4 (bt_int (i := 1)) (bt_int (i := 2)) (bt_int (i := 3)) (bt_int (i := 4)) (bt_int (i := 0)))) pairs_nil)) (by decide)
  have fin : (lv 8).cl "_law_unlike" [] S = .ok d5 S5 := by
    rw [lv_cl 7 "_law_unlike" (e := ⟨n__law_unlike, p__law_unlike, c__law_unlike.1, none⟩) (by kernel_rfl)]
    unfold callC runC c__law_unlike
    rw [if_pos (by rfl)]
    simp only [show startD n__law_unlike.length [] = [none] from rfl]
    rw [exCs, exC, e0, Res.bind_ok, asT, if_pos (by simp)]
    simp only [Res.bind_ok, List.set_cons_zero]
    rw [exCs, exC, e1, Res.bind_ok, asT, if_pos (by simp)]
    simp only [Res.bind_ok, List.set_cons_zero]
    rw [exCs, exC, e2, Res.bind_ok, asT, if_pos (by simp)]
    simp only [Res.bind_ok, List.set_cons_zero]
    rw [exCs, exC, e3, Res.bind_ok, asT, if_pos (by simp)]
    simp only [Res.bind_ok, List.set_cons_zero]
    rw [exCs, exC, e4, Res.bind_ok, asT, if_pos (by simp)]
    simp only [Res.bind_ok, List.set_cons_zero]
    rw [exCs, exC, e5]
    simp only [Res.bind_ok]
  obtain ⟨r, ds, T, h1, h2, h3, h4, h5⟩ := u5
  subst h1 h2
  exact ⟨r, ds, T, fin, h3, by omega, h5⟩
end K90

namespace K90
open PySem PySem.Spec PyProof.Rows L2 PV
/-! ### the pen, and the values -/
def penBody : Cs := Cs.cons (C.asg (T.var 1) (E.bin .Mod (E.prim .int (Es.cons (E.bin .Add (E.bin .Mult (E.var 1) (E.lit (.int 179))) (E.var 2)) Es.nil)) (E.lit (.int 999999193)))) Cs.nil
theorem pen_loop {M : Sem} {S : Sto} {g : PV.Gd} (hg : stay S g = true) {a : Option D} : ∀ (xs : List Int) (fo : Int) (c2 : Option D), 0 ≤ fo → fo < 999999193 → ∃ fo' c2', 0 ≤ fo' ∧ fo' < 999999193 ∧ forGo (fun x σ S => (asT M (.var 2) x σ S).bind fun σ1 S1 => exCs M 0 penBody σ1 S1) g (xs.map D.int) [a, some (.int fo), c2] S = .ok (.nx [a, some (.int fo'), c2']) S
  | [], fo, c2, h0, h1 => ⟨fo, c2, h0, h1, by rw [List.map_nil, forGo, if_pos hg]⟩
  | x :: xs, fo, c2, h0, h1 => by
    obtain ⟨fo', c2', g0, g1, e⟩ := pen_loop hg xs ((fo * 179 + x).fmod 999999193) (some (.int x)) (Int.fmod_nonneg_of_pos _ (by decide)) (Int.fmod_lt_of_pos _ (by decide))
    refine ⟨fo', c2', g0, g1, ?_⟩
    rw [List.map_cons, forGo, if_pos hg, asT, if_pos (by simp)]
    simp only [Res.bind_ok, List.set_cons_succ, List.set_cons_zero]
    unfold penBody
    rw [exCs, exC]
    simp only [evE, evEs, List.getElem?_cons_zero, List.getElem?_cons_succ, Res.bind_ok, b_mul (mul_ok (a := fo) (b := 179) (by omega) (by decide)), b_add, p_int, b_mod (show (999999193 : Int) ≠ 0 by decide)]
    rw [asT, if_pos (by simp)]
    simp only [Res.bind_ok, List.set_cons_succ, List.set_cons_zero, exCs]
    exact e
theorem pen_spec {S : Sto} {n : Nat} {ns : List Int} (hs : S[n]? = some (.frz (ns.map D.int))) : ∃ q, (lv 8).cl "_law_pen" [.loc n] S = .ok (.loc (S.length + 1)) (S ++ [.lst (ns.map D.int), penO S.length q]) ∧ q.Ok 0 := by
  have hl : PV.listOf S (.loc n) = some (ns.map D.int) := by
    unfold PV.listOf
    dsimp only
    rw [hs]
  have hg : stay S [(n, ns.map D.int)] = true := by
    unfold stay
    rw [decide_eq_true hs]
    simp [stay]
  obtain ⟨fo', c2', g0, g1, e⟩ := pen_loop (M := semL none false (lv 7)) hg (a := some (.loc n)) ns 0 none (by decide) (by decide)
  refine ⟨⟨0, 0, 0, fo'⟩, ?_, ⟨Int.le_refl 0, Int.le_refl 0, Int.le_refl 0, Int.le_refl 0, g0, by show fo' < _; omega⟩⟩
  rw [lv_cl 7 "_law_pen" (e := ⟨n__law_pen, p__law_pen, c__law_pen.1, none⟩) (by kernel_rfl)]
  unfold callC runC c__law_pen
  rw [if_pos (by rfl)]
  simp only [show startD n__law_pen.length [D.loc n] = [some (.loc n), none, none] from rfl]
  rw [exCs, exC]
  simp only [evE, Res.bind_ok]
  rw [asT, if_pos (by simp)]
  simp only [Res.bind_ok, List.set_cons_succ, List.set_cons_zero]
  rw [exCs, exC]
  simp only [evI, evE, List.getElem?_cons_zero, Res.bind_ok, hl]
  unfold penBody at e
  rw [e]
  simp only [Res.bind_ok]
  rw [exCs, exC]
  simp only [evE, evEs, List.getElem?_cons_zero, List.getElem?_cons_succ, Res.bind_ok]
  rw [show primD (semL none false (lv 7)).cls (semL none false (lv 7)).gc (semL none false (lv 7)).rp .list [D.loc n] S = newO (.lst (ns.map D.int)) S by
    show (match seqOf S (.loc n) with | some ds => newO (.lst ds) S | none => .bad) = _
    rw [show seqOf S (.loc n) = some (ns.map D.int) from hl]]
  unfold newO
  simp only [Res.bind_ok]
  rw [if_pos ⟨rfl, by simp⟩]
  simp only [Res.bind_ok, List.append_assoc, List.cons_append, List.nil_append, List.length_append, List.length_cons, List.length_nil]
  rfl
theorem ne_pen {S : Sto} {p l : Nat} {q : Pen} {c : Nat} {o : O} (hp : S[p]? = some (penO c q)) (hl : S[l]? = some o) (hd : isDct (some o) = false) : l ≠ p := fun e => by
  rw [e, hp] at hl
  injection hl with hl
  rw [← hl] at hd
  cases hd
theorem pick_spec {S : Sto} {p c l n : Nat} {q : Pen} {cells : List Int} {ds : List D} (h : PenAt S p c cells q) (ok : q.Ok n) (hn : n < 1000) (hl : S[l]? = some (.lst ds)) (h1 : 1 ≤ ds.length) (h2 : ds.length ≤ 1000) : ∃ v q', (lv 7).cl "_law_pick" [.loc p, .loc l] S = .ok v (S.set p (penO c q')) ∧ v ∈ ds ∧ q'.Ok (n + 1) := by
  obtain ⟨r, q', e, r0, r1, ok'⟩ := draw_at 5 (many := (ds.length : Int)) h ok hn (by omega) (by omega)
  obtain ⟨v, a1, a2⟩ := atI_ok (xs := ds) r0 r1
  refine ⟨v, q', ?_, List.mem_of_getElem? a2, ok'⟩
  rw [lv_cl 6 "_law_pick" (e := ⟨n__law_pick, p__law_pick, c__law_pick.1, none⟩) (by kernel_rfl)]
  unfold callC runC c__law_pick
  rw [if_pos (by rfl)]
  simp only [show startD n__law_pick.length [D.loc p, D.loc l] = [some (.loc p), some (.loc l)] from rfl]
  rw [exCs, exC]
  simp only [evE, evEs, List.getElem?_cons_zero, List.getElem?_cons_succ, Res.bind_ok, p_len (seq_at hl), s_call, e]
  rw [idx_lst (by rw [List.getElem?_set_ne (Ne.symm (ne_pen h.hp hl rfl))]; exact hl) a1]
  simp only [Res.bind_ok]
/-- a value as it is drawn -/
def Val (S : Sto) (v : D) (pd : PyData) : Prop := Gd pd ∧ ((PV.listOf S v = none ∧ (∀ S', PV.listOf S' v = none ∧ Bt S' v ∧ toPy S' 10 v = some pd)) ∨ ∃ n ds, v = .loc n ∧ S[n]? = some (.lst ds) ∧ ds.length ≤ 10 ∧ toPy S 10 (.tup ds) = some pd)
theorem Val.kp {p : Nat} {S S' : Sto} {v : D} {pd : PyData} (h : Val S v pd) (k : Kp p S S') (hp : isDct S[p]? = true) : Val S' v pd := by
  obtain ⟨g, ⟨h1, h2⟩ | ⟨n, ds, e1, e2, e3, e4⟩⟩ := h
  · exact ⟨g, .inl ⟨(h2 S').1, h2⟩⟩
  · refine ⟨g, .inr ⟨n, ds, e1, k.2 n _ (fun z => ?_) e2, e3, toPy_kp (fun _ _ e => listOf_kp k hp e) 10 _ _ e4⟩⟩
    rw [z] at e2
    rw [e2] at hp
    cases hp
def ten (n : Nat) : List D := [.tup [.int 1, .int 2], .loc n, .tup [], .loc (n + 1), .str "abc", .int 0, .non, .tup [.tup [.str "a", .int 1]], .loc (n + 3), .int 7]
def tenS (n : Nat) : Sto := [.lst [.int 3, .tup [.int 4]], .lst [], .lst [.int 1], .lst [.loc (n + 2)], .lst (ten n)]
theorem gd_all : ∀ p ∈ [PyData.tuple [.int 1, .int 2], .tuple [.int 3, .tuple [.int 4]], .tuple [], .str "abc", .int 0, .none, .tuple [.tuple [.str "a", .int 1]], .tuple [.list [.int 1]], .int 7], (p.canLay0 && decide (p.depth ≤ 10) && p.showable && decide (p.shown.length ≤ 1000) && PyData.strOk p.shown) = true := by decide +kernel
theorem gd_of {p : PyData} (h : p ∈ [PyData.tuple [.int 1, .int 2], .tuple [.int 3, .tuple [.int 4]], .tuple [], .str "abc", .int 0, .none, .tuple [.tuple [.str "a", .int 1]], .tuple [.list [.int 1]], .int 7]) : Gd p := by
  have := gd_all p h
  rw [Bool.and_eq_true, Bool.and_eq_true, Bool.and_eq_true, Bool.and_eq_true] at this
  obtain ⟨⟨⟨⟨a, b⟩, c⟩, d⟩, e⟩ := this
  exact ⟨a, of_decide_eq_true b, c, of_decide_eq_true d, e⟩
theorem ten_val {S : Sto} {v : D} (h : v ∈ ten S.length) : ∃ pd, Val (S ++ tenS S.length) v pd := by
  have g0 : (S ++ tenS S.length)[S.length]? = some (.lst [.int 3, .tup [.int 4]]) := get_app (i := 0)
  have g1 : (S ++ tenS S.length)[S.length + 1]? = some (.lst []) := get_app (i := 1)
  have g2 : (S ++ tenS S.length)[S.length + 2]? = some (.lst [.int 1]) := get_app (i := 2)
  have g3 : (S ++ tenS S.length)[S.length + 3]? = some (.lst [.loc (S.length + 2)]) := get_app (i := 3)
  unfold ten at h
  simp only [List.mem_cons, List.not_mem_nil, or_false] at h
  rcases h with rfl | rfl | rfl | rfl | rfl | rfl | rfl | rfl | rfl | rfl
  · exact ⟨_, gd_of (p := .tuple [.int 1, .int 2]) (by simp), .inl ⟨rfl, fun S' => ⟨rfl, ⟨"tuple", rfl, by decide, rfl⟩, rfl⟩⟩⟩
  · exact ⟨_, gd_of (p := .tuple [.int 3, .tuple [.int 4]]) (by simp), .inr ⟨_, _, rfl, g0, by decide, rfl⟩⟩
  · exact ⟨_, gd_of (p := .tuple []) (by simp), .inl ⟨rfl, fun S' => ⟨rfl, ⟨"tuple", rfl, by decide, rfl⟩, rfl⟩⟩⟩
  · exact ⟨_, gd_of (p := .tuple []) (by simp), .inr ⟨_, _, rfl, g1, by decide, rfl⟩⟩
  · exact ⟨_, gd_of (p := .str "abc") (by simp), .inl ⟨rfl, fun S' => ⟨rfl, ⟨"str", rfl, by decide, rfl⟩, rfl⟩⟩⟩
  · exact ⟨_, gd_of (p := .int 0) (by simp), .inl ⟨rfl, fun S' => ⟨rfl, ⟨"int", rfl, by decide, rfl⟩, rfl⟩⟩⟩
  · exact ⟨_, gd_of (p := .none) (by simp), .inl ⟨rfl, fun S' => ⟨rfl, ⟨"NoneType", rfl, by decide, rfl⟩, rfl⟩⟩⟩
  · exact ⟨_, gd_of (p := .tuple [.tuple [.str "a", .int 1]]) (by simp), .inl ⟨rfl, fun S' => ⟨rfl, ⟨"tuple", rfl, by decide, rfl⟩, rfl⟩⟩⟩
  · refine ⟨_, gd_of (p := .tuple [.list [.int 1]]) (by simp), .inr ⟨_, _, rfl, g3, by simp, ?_⟩⟩
    refine toPy_tup (mapM_cons (p := .list [.int 1]) ?_ mapM_nil)
    show (match PV.listOf (S ++ tenS S.length) (.loc (S.length + 2)) with
        | some ds => (ds.mapM (toPy (S ++ tenS S.length) 8)).map PyData.list
        | none => none) = _
    unfold PV.listOf
    dsimp only
    rw [g2]
    rfl
  · exact ⟨_, gd_of (p := .int 7) (by simp), .inl ⟨rfl, fun S' => ⟨rfl, ⟨"int", rfl, by decide, rfl⟩, rfl⟩⟩⟩
theorem PenAt.app {S T : Sto} {p c : Nat} {cells : List Int} {q : Pen} (h : PenAt S p c cells q) : PenAt (S ++ T) p c cells q := ⟨get_left h.hp, get_left h.hc, h.ne⟩
theorem value_spec {S : Sto} {p c n : Nat} {q : Pen} {cells : List Int} (h : PenAt S p c cells q) (ok : q.Ok n) (hn : n < 1000) : ∃ v S' q' pd, (lv 8).cl "_law_value" [.loc p] S = .ok v S' ∧ PenAt S' p c cells q' ∧ q'.Ok (n + 1) ∧ Kp p S S' ∧ Val S' v pd := by
  have hA : PenAt (S ++ tenS S.length) p c cells q := h.app
  have g4 : (S ++ tenS S.length)[S.length + 4]? = some (.lst (ten S.length)) := get_app (i := 4)
  obtain ⟨v, q', e, hm, ok'⟩ := pick_spec hA ok hn g4 (by simp [ten]) (by simp [ten])
  obtain ⟨pd, hv⟩ := ten_val hm
  have k : Kp p (S ++ tenS S.length) ((S ++ tenS S.length).set p (penO c q')) := Kp.set
  refine ⟨v, _, q', pd, ?_, hA.put q', ok', Kp.app.trans k, hv.kp k (by rw [hA.hp]; rfl)⟩
  rw [lv_cl 7 "_law_value" (e := ⟨n__law_value, p__law_value, c__law_value.1, none⟩) (by kernel_rfl)]
  unfold callC runC c__law_value
  rw [if_pos (by rfl)]
  simp only [show startD n__law_value.length [D.loc p] = [some (.loc p)] from rfl]
  rw [exCs, exC]
  simp only [evE, evEs, List.getElem?_cons_zero, Res.bind_ok, newO, List.length_cons, List.length_nil, mostLen, Nat.reduceAdd, Nat.reduceLeDiff, Nat.zero_le, if_true, List.append_assoc, List.cons_append, List.nil_append, List.length_append, Nat.add_zero, s_call]
  unfold tenS ten at e
  rw [e]
  simp only [Res.bind_ok]
  rfl
end K90

namespace K90
open PySem PySem.Spec PyProof.Rows L2 PV
/-! ### the two comprehensions -/
theorem value_go {p c : Nat} {cells : List Int} {f : D → Sto → Res (List D)} (hf : ∀ x S v S', (lv 8).cl "_law_value" [.loc p] S = .ok v S' → f x S = .ok [v] S') : ∀ (xs acc : List D) (S : Sto) (q : Pen) (n : Nat), PenAt S p c cells q → q.Ok n → n + xs.length ≤ 1000 → acc.length + xs.length ≤ 100 → (∀ v ∈ acc, ∃ pd, Val S v pd) → ∃ acc' S' q', compGo f [] xs acc S = .ok acc' S' ∧ acc'.length = acc.length + xs.length ∧ PenAt S' p c cells q' ∧ q'.Ok (n + xs.length) ∧ Kp p S S' ∧ ∀ v ∈ acc', ∃ pd, Val S' v pd
  | [], acc, S, q, n, h, ok, _, _, ha => ⟨acc, S, q, by rw [compGo, if_pos (by rfl)], rfl, h, ok, Kp.refl, ha⟩
  | x :: xs, acc, S, q, n, h, ok, hn, hl, ha => by
    rw [List.length_cons] at hn hl
    obtain ⟨v, S1, q1, pd, e, h1, ok1, k1, hv⟩ := value_spec h ok (by omega)
    have hp : isDct S[p]? = true := by rw [h.hp]; rfl
    obtain ⟨acc', S', q', e2, e3, e4, e5, k2, e6⟩ := value_go hf xs (acc ++ [v]) S1 q1 (n + 1) h1 ok1 (by omega) (by rw [List.length_append]; simp; omega) (fun w hw => by
      rcases List.mem_append.mp hw with hw | hw
      · obtain ⟨pd', hw'⟩ := ha w hw
        exact ⟨pd', hw'.kp k1 hp⟩
      · rw [List.mem_singleton] at hw
        rw [hw]
        exact ⟨pd, hv⟩)
    refine ⟨acc', S', q', ?_, by rw [e3, List.length_append]; simp; omega, e4, by rw [List.length_cons, show n + (xs.length + 1) = n + 1 + xs.length by omega]; exact e5, k1.trans k2, e6⟩
    rw [compGo, if_pos (by rfl), hf x S v S1 e, Res.bind_ok, if_pos (by have : mostLen = 100000 := rfl; omega)]
    exact e2
/-- a value that stands ready -/
def VOk (S : Sto) (v : D) (pd : PyData) : Prop := Vc S v pd ∧ ((∀ S', PV.listOf S' v = none ∧ Bt S' v) ∨ ∃ n ds, v = .loc n ∧ S[n]? = some (.lst ds) ∧ ds.length ≤ 10 ∧ ∀ o, Fv (S.set n o) (.tup ds) pd)
theorem VOk.app {S T : Sto} {v : D} {pd : PyData} (h : VOk S v pd) : VOk (S ++ T) v pd := by
  obtain ⟨h1, h2 | ⟨n, ds, e1, e2, e3, e4⟩⟩ := h
  · exact ⟨h1.app, .inl h2⟩
  · refine ⟨h1.app, .inr ⟨n, ds, e1, get_left e2, e3, fun o => ?_⟩⟩
    rw [List.set_append_left _ _ (List.getElem?_eq_some_iff.mp e2).1]
    exact fv_app (e4 o)
theorem copy_val {S : Sto} {v : D} {pd : PyData} (h : Val S v pd) : (PV.listOf S v = none ∧ VOk S v pd) ∨ ∃ ds, PV.listOf S v = some ds ∧ VOk (S ++ [.lst ds]) (.loc S.length) pd := by
  obtain ⟨g, ⟨h1, h2⟩ | ⟨n, ds, e1, e2, e3, e4⟩⟩ := h
  · refine .inl ⟨h1, ⟨(h2 S).2.1, ?_⟩, .inl fun S' => ⟨(h2 S').1, (h2 S').2.1⟩⟩
    unfold cpD
    rw [h1]
    exact ⟨(h2 S).2.2, g⟩
  · refine .inr ⟨ds, ?_, ⟨⟨"list", ?_, by decide, ?_⟩, ?_⟩, .inr ⟨_, ds, rfl, get_last, e3, fun o => ?_⟩⟩
    · rw [e1]
      unfold PV.listOf
      dsimp only
      rw [e2]
    · show (match (S ++ [.lst ds])[S.length]? with
      | some (.lst _) => some (Sum.inl "list") | some (.frz _) => some (.inl "list") | some (.dct _) => some (.inl "dict") | some (.ins c _) => some (.inr c) | none => none) = _
      rw [get_last]
    · unfold PV.listOf
      dsimp only
      rw [get_last]
      rfl
    · unfold cpD PV.listOf
      dsimp only
      rw [get_last]
      exact fv_app ⟨e4, g⟩
    · rw [set_last]
      exact fv_app ⟨e4, g⟩
theorem copy_go {r : Nat} {vs : List D} {f : D → Sto → Res (List D)} (hf : ∀ x S, (PV.listOf S x = none → Bt S x → f x S = .ok [x] S) ∧ (∀ ds, PV.listOf S x = some ds → f x S = .ok [.loc S.length] (S ++ [.lst ds]))) : ∀ (xs acc : List D) (S : Sto), S[r]? = some (.lst vs) → (∀ x ∈ xs, ∃ pd, Val S x pd) → acc.length + xs.length ≤ 100 → (∀ v ∈ acc, ∃ pd, VOk S v pd) → ∃ acc' T, compGo f [(r, vs)] xs acc S = .ok acc' (S ++ T) ∧ acc'.length = acc.length + xs.length ∧ ∀ v ∈ acc', ∃ pd, VOk (S ++ T) v pd
  | [], acc, S, hr, _, _, ha => ⟨acc, [], by rw [compGo, if_pos (by unfold stay; rw [decide_eq_true hr]; rfl), List.append_nil], rfl, by rw [List.append_nil]; exact ha⟩
  | x :: xs, acc, S, hr, hx, hl, ha => by
    rw [List.length_cons] at hl
    have hg : stay S [(r, vs)] = true := by unfold stay; rw [decide_eq_true hr]; rfl
    have hlt : acc.length < mostLen := by have : mostLen = 100000 := rfl; omega
    obtain ⟨pd, hv⟩ := hx x List.mem_cons_self
    rcases copy_val hv with ⟨h1, h2⟩ | ⟨ds, h1, h2⟩
    · obtain ⟨acc', T, e, e2, e3⟩ := copy_go hf xs (acc ++ [x]) S hr (fun y hy => hx y (List.mem_cons_of_mem _ hy)) (by rw [List.length_append]; simp; omega) (fun w hw => by
        rcases List.mem_append.mp hw with hw | hw
        · exact ha w hw
        · rw [List.mem_singleton] at hw
          rw [hw]
          exact ⟨pd, h2⟩)
      refine ⟨acc', T, ?_, by rw [e2, List.length_append]; simp; omega, e3⟩
      rw [compGo, if_pos hg, (hf x S).1 h1 h2.1.bt, Res.bind_ok, if_pos hlt]
      exact e
    · obtain ⟨acc', T, e, e2, e3⟩ := copy_go hf xs (acc ++ [.loc S.length]) (S ++ [.lst ds]) (get_left hr) (fun y hy => by
          obtain ⟨pd', hy'⟩ := hx y (List.mem_cons_of_mem _ hy)
          obtain ⟨g, ⟨a1, a2⟩ | ⟨n, ds', b1, b2, b3, b4⟩⟩ := hy'
          · exact ⟨pd', g, .inl ⟨(a2 _).1, a2⟩⟩
          · exact ⟨pd', g, .inr ⟨n, ds', b1, get_left b2, b3, (fv_app (T := [O.lst ds]) ⟨b4, g⟩).py⟩⟩) (by rw [List.length_append]; simp; omega) (fun w hw => by
        rcases List.mem_append.mp hw with hw | hw
        · obtain ⟨pd', hw'⟩ := ha w hw
          exact ⟨pd', hw'.app⟩
        · rw [List.mem_singleton] at hw
          rw [hw]
          exact ⟨pd, h2⟩)
      refine ⟨acc', [.lst ds] ++ T, ?_, by rw [e2, List.length_append]; simp; omega, by rw [← List.append_assoc]; exact e3⟩
      rw [compGo, if_pos hg, (hf x S).2 ds h1, Res.bind_ok, if_pos hlt, ← List.append_assoc]
      exact e
noncomputable abbrev ML : PV.Sem := semL none true (lv 8)
theorem comp1 {σ : En} {S : Sto} {p c : Nat} {q : Pen} {cells : List Int} (h1 : σ[1]? = some (some (.loc p))) (hl : 3 < σ.length) (h : PenAt S p c cells q) (ok : q.Ok 0) : ∃ S' q' vs r, evE ML (E.comp [3] (T.var 3) (I.range1 (Es.cons (E.lit (D.int 4)) Es.nil)) Oe.none (E.call "_law_value" (Es.cons (E.var 1) Es.nil))) σ S = .ok (.loc r) S' ∧ S'[r]? = some (.lst vs) ∧ vs.length = 4 ∧ PenAt S' p c cells q' ∧ q'.Ok 4 ∧ Kp p S S' ∧ ∀ v ∈ vs, ∃ pd, Val S' v pd := by
  have hf : ∀ x S v S', (lv 8).cl "_law_value" [.loc p] S = .ok v S' → (fun x S => (asT ML (T.var 3) x (wipe σ [3]) S).bind fun σ1 S1 => (evC ML .none σ1 S1).bind fun b S2 => match b with
        | true => (evE ML (E.call "_law_value" (Es.cons (E.var 1) Es.nil)) σ1 S2).bind fun v S3 => .ok [v] S3
        | false => .ok [] S2) x S = .ok [v] S' := by
    intro x S v S' e
    have hw : wipe σ [3] = σ.set 3 none := rfl
    dsimp only
    rw [hw, asT, if_pos (by rw [List.length_set]; exact hl), Res.bind_ok, evC, Res.bind_ok]
    dsimp only
    have g : ((σ.set 3 none).set 3 (some x))[1]? = some (some (.loc p)) := by
      rw [List.getElem?_set_ne (by decide), List.getElem?_set_ne (by decide)]
      exact h1
    simp only [evE, evEs, g, Res.bind_ok, s_call]
    rw [e, Res.bind_ok]
  obtain ⟨acc', S', q', e, e2, e3, e4, k, e5⟩ := value_go hf [.int 0, .int 1, .int 2, .int 3] [] S q 0 h ok (by decide) (by decide) (fun v hv => (by cases hv))
  refine ⟨S' ++ [.lst acc'], q', acc', S'.length, ?_, get_last, e2, e3.app, e4, k.trans Kp.app, fun v hv => ?_⟩
  · have ei : evI ML (I.range1 (Es.cons (E.lit (D.int 4)) Es.nil)) σ S = .ok ([.int 0, .int 1, .int 2, .int 3], []) S := by
      simp only [evI, evE, evEs, Res.bind_ok]
      rw [if_pos (by decide)]
      rfl
    rw [evE, ei, Res.bind_ok]
    dsimp only
    exact (congrArg (fun z => Res.bind z fun acc S2 => newO (.lst acc) S2) e).trans rfl
  · obtain ⟨pd, hv⟩ := e5 v hv
    exact ⟨pd, hv.kp (p := p) Kp.app (by rw [e3.hp]; rfl)⟩
theorem comp2 {σ : En} {S : Sto} {r : Nat} {vs : List D} (h2 : σ[2]? = some (some (.loc r))) (hl : 8 < σ.length) (hr : S[r]? = some (.lst vs)) (hv : ∀ v ∈ vs, ∃ pd, Val S v pd) (hn : vs.length = 4) : ∃ X n ws, evE ML (E.comp [8] (T.var 8) (I.seq (E.var 2)) Oe.none ((E.prim Prim.isi (Es.cons (E.var 8) (Es.cons (E.lit (D.ty "list")) Es.nil))).ite (E.prim Prim.list (Es.cons (E.var 8) Es.nil)) (E.var 8))) σ S = .ok (.loc n) (S ++ X) ∧ (S ++ X)[n]? = some (.lst ws) ∧ ws.length = 4 ∧ ∀ w ∈ ws, ∃ pd, VOk (S ++ X) w pd := by
  have hf : ∀ x S, (PV.listOf S x = none → Bt S x → (fun x S => (asT ML (T.var 8) x (wipe σ [8]) S).bind fun σ1 S1 => (evC ML .none σ1 S1).bind fun b S2 => match b with
        | true => (evE ML ((E.prim Prim.isi (Es.cons (E.var 8) (Es.cons (E.lit (D.ty "list")) Es.nil))).ite (E.prim Prim.list (Es.cons (E.var 8) Es.nil)) (E.var 8)) σ1 S2).bind fun v S3 => .ok [v] S3
        | false => .ok [] S2) x S = .ok [x] S) ∧ (∀ ds, PV.listOf S x = some ds → (fun x S => (asT ML (T.var 8) x (wipe σ [8]) S).bind fun σ1 S1 => (evC ML .none σ1 S1).bind fun b S2 => match b with
        | true => (evE ML ((E.prim Prim.isi (Es.cons (E.var 8) (Es.cons (E.lit (D.ty "list")) Es.nil))).ite (E.prim Prim.list (Es.cons (E.var 8) Es.nil)) (E.var 8)) σ1 S2).bind fun v S3 => .ok [v] S3
        | false => .ok [] S2) x S = .ok [.loc S.length] (S ++ [.lst ds])) := by
    intro x S
    have hw : wipe σ [8] = σ.set 8 none := rfl
    have g : ((σ.set 8 none).set 8 (some x))[8]? = some (some x) := by
      rw [List.set_set, List.getElem?_set_self hl]
    refine ⟨fun h b => ?_, fun ds h => ?_⟩
    · dsimp only
      rw [hw, asT, if_pos (by rw [List.length_set]; exact hl), Res.bind_ok, evC, Res.bind_ok]
      dsimp only
      simp only [evE, evEs, g, Res.bind_ok, p_isi, isi_list b, h, Option.isSome_none]
    · dsimp only
      have b : Bt S x := by
        cases x with
        | loc n =>
          have h' := h
          unfold PV.listOf at h'
          dsimp only at h'
          refine ⟨"list", ?_, by decide, by rw [h]; rfl⟩
          show (match S[n]? with
            | some (.lst _) => some (Sum.inl "list") | some (.frz _) => some (.inl "list") | some (.dct _) => some (.inl "dict") | some (.ins c _) => some (.inr c) | none => none) = _
          cases e : S[n]? with
          | none => rw [e] at h'; cases h'
          | some o =>
            rw [e] at h'
            cases o with
            | lst _ => rfl
            | frz _ => rfl
            | _ => cases h'
        | _ => cases h
      rw [hw, asT, if_pos (by rw [List.length_set]; exact hl), Res.bind_ok, evC, Res.bind_ok]
      dsimp only
      simp only [evE, evEs, g, Res.bind_ok, p_isi, isi_list b, h, Option.isSome_some]
      show ((match seqOf S x with | some ds => newO (.lst ds) S | none => .bad).bind _) = _
      rw [seq_list h]
      rfl
  obtain ⟨acc', X, e, e2, e3⟩ := copy_go (r := r) (vs := vs) hf vs [] S hr hv (by rw [hn]; decide) (fun v hv => (by cases hv))
  refine ⟨X ++ [.lst acc'], (S ++ X).length, acc', ?_, by rw [← List.append_assoc]; exact get_last, by rw [e2, hn]; rfl, fun w hw => ?_⟩
  · rw [evE]
    have lo : PV.listOf S (.loc r) = some vs := by unfold PV.listOf; dsimp only; rw [hr]
    have ei : evI ML (I.seq (E.var 2)) σ S = .ok (vs, [(r, vs)]) S := by
      simp only [evI, evE, h2, Res.bind_ok, lo]
    rw [ei, Res.bind_ok]
    dsimp only
    rw [← List.append_assoc]
    exact (congrArg (fun z => Res.bind z fun acc S2 => newO (.lst acc) S2) e).trans rfl
  · obtain ⟨pd, h⟩ := e3 w hw
    rw [← List.append_assoc]
    exact ⟨pd, h.app⟩
end K90

namespace K90
open PySem PySem.Spec PyProof.Rows L2 PV
/-! ### the two loops -/
def b1 : Cs := Cs.cons (C.asg (T.var 14) (E.prim .repr (Es.cons (E.prim .tuple (Es.cons (E.comp [8] (T.var 8) (I.seq (E.var 12)) Oe.none (E.call "_law_copy" (Es.cons (E.var 8) Es.nil))) Es.nil)) Es.nil))) (Cs.cons (C.iff ((E.cmp .NotEq (E.prim .repr (Es.cons (E.callv 13 (Es.cons (E.var 10) Es.nil)) Es.nil)) (E.var 14)).or ((E.cmp .NotEq (E.prim .repr (Es.cons (E.callv 13 (Es.cons (E.var 11) Es.nil)) Es.nil)) (E.var 14)).or ((E.cmp .NotEq (E.var 10) (E.var 11)).or (E.cmp .Eq (E.var 10) (E.var 11)).not))) (Cs.cons (C.ret (Oe.some (E.lit (.bl false)))) Cs.nil) Cs.nil) Cs.nil)
theorem compc {σ : En} {S : Sto} {vs : List D} (h : σ[12]? = some (some (.tup vs))) (hl : 8 < σ.length) (hb : ∀ v ∈ vs, Bt S v) (hn : vs.length ≤ 10) : evE ML (E.comp [8] (T.var 8) (I.seq (E.var 12)) Oe.none (E.call "_law_copy" (Es.cons (E.var 8) Es.nil))) σ S = .ok (.loc S.length) (S ++ [.lst (vs.map (cpD S))]) := by
  obtain ⟨f, fe, hf⟩ : ∃ f : D → Sto → Res (List D), f = (fun x S => (asT ML (T.var 8) x (wipe σ [8]) S).bind fun σ1 S1 => (evC ML .none σ1 S1).bind fun b S2 => match b with
        | true => (evE ML (E.call "_law_copy" (Es.cons (E.var 8) Es.nil)) σ1 S2).bind fun v S3 => .ok [v] S3
        | false => .ok [] S2) ∧ ∀ x, Bt S x → f x S = .ok [cpD S x] S := by
    refine ⟨_, rfl, fun x b => ?_⟩
    have hw : wipe σ [8] = σ.set 8 none := rfl
    have g : ((σ.set 8 none).set 8 (some x))[8]? = some (some x) := by
      rw [List.set_set, List.getElem?_set_self hl]
    rw [hw, asT, if_pos (by rw [List.length_set]; exact hl), Res.bind_ok, evC, Res.bind_ok]
    dsimp only
    simp only [evE, evEs, g, Res.bind_ok, s_call]
    rw [law_copy_spec 7 b]
    rfl
  have go : ∀ (f : D → Sto → Res (List D)), (∀ x, Bt S x → f x S = .ok [cpD S x] S) → ∀ (xs acc : List D), (∀ v ∈ xs, Bt S v) → acc.length + xs.length ≤ 100 → compGo f [] xs acc S = .ok (acc ++ xs.map (cpD S)) S := by
    intro f hf xs
    induction xs with
    | nil => intro acc _ _; rw [compGo, if_pos (by rfl)]; simp
    | cons x xs ih =>
      intro acc hx hl
      rw [List.length_cons] at hl
      rw [compGo, if_pos (by rfl), hf x (hx x List.mem_cons_self), Res.bind_ok, if_pos (by have : mostLen = 100000 := rfl; omega), ih _ (fun v hv => hx v (List.mem_cons_of_mem _ hv)) (by rw [List.length_append]; simp; omega)]
      simp
  have e := go f hf vs [] hb (by simp; omega)
  subst fe
  rw [evE]
  have ei : evI ML (I.seq (E.var 12)) σ S = .ok (vs, []) S := by
    simp only [evI, evE, h, Res.bind_ok]
  rw [ei, Res.bind_ok]
  exact (congrArg (fun z => Res.bind z fun acc S2 => newO (.lst acc) S2) e).trans rfl
theorem callv_ev {σ : En} {S S' : Sto} {fn d : D} {x i : Nat} (h : σ[13]? = some (some fn)) (hi : σ[i]? = some (some (.loc x))) (hc : callF fn x S = .ok d S') : evE ML (.callv 13 (.cons (.var i) .nil)) σ S = .ok d S' := by
  rw [evE, h]
  cases fn with
  | glb f =>
    dsimp only
    simp only [evEs, evE, hi, Res.bind_ok]
    exact hc
  | lam j =>
    dsimp only
    simp only [evEs, evE, hi, Res.bind_ok]
    exact hc
  | _ => cases hc
theorem sh_str {s : Str} (h : PyData.strOk s = true) : SeqAt.shaped (.str s) = true := by
  unfold SeqAt.shaped
  rw [PyData.canLay0, h, PyData.depth]
  rfl
theorem ne_str {s : Str} {S : Sto} (h : PyData.strOk s = true) : cmpD ML.mcall ML.cls .NotEq (.str s) (.str s) S = .ok (.bl false) S := by
  rw [ne_py (p := .str s) (q := .str s) rfl rfl (sh_str h) (sh_str h) _ _ rfl, SeqAt.eqv_refl _ (by rw [PyData.canLay0]; exact h)]
  rfl
theorem eq_str {s : Str} {S : Sto} (h : PyData.strOk s = true) : cmpD ML.mcall ML.cls .Eq (.str s) (.str s) S = .ok (.bl true) S := by
  rw [eq_py (p := .str s) (q := .str s) rfl rfl (sh_str h) (sh_str h) _ _ rfl, SeqAt.eqv_refl _ (by rw [PyData.canLay0]; exact h)]
theorem body1 {S : Sto} {x y : Nat} {hs : List D} {fn : D} {e0 e1 e2 e3 e4 e5 e6 e7 e8 e9 o10 o11 o12 o13 o14 o15 o16 : Option D} (h : ∀ X, RowOk (S ++ X) x y hs fn) :
    ∃ s X, ((asT ML (PV.T.tup (Ts.cons (T.var 10) (Ts.cons (T.var 11) (Ts.cons (T.var 12) (Ts.cons (T.var 13) Ts.nil))))) (.tup [.loc x, .loc y, .tup hs, fn]) [e0, e1, e2, e3, e4, e5, e6, e7, e8, e9, o10, o11, o12, o13, o14, o15, o16] S).bind fun σ1 S1 => exCs ML 0 b1 σ1 S1) = .ok (.nx [e0, e1, e2, e3, e4, e5, e6, e7, e8, e9, some (.loc x), some (.loc y), some (.tup hs), some fn, some (.str s), o15, o16]) (S ++ X) := by
  have h0 := h []
  rw [List.append_nil] at h0
  have h1 := h [.lst (hs.map (cpD S))]
  have hm : hs.map (cpD (S ++ [.lst (hs.map (cpD S))])) = hs.map (cpD S) := List.map_congr_left fun v hv => (bt_app (h0.bt v hv)).2
  obtain ⟨s, rp, so⟩ := h1.rp
  have fx := h1.fx
  have fy := h1.fy
  rw [hm] at rp fx fy
  refine ⟨s, [.lst (hs.map (cpD S))], ?_⟩
  rw [asT]
  simp only [seqOf, asTs, asT, List.length_cons, List.length_nil, List.length_set, Nat.reduceAdd, Nat.reduceLT, if_true, Res.bind_ok, List.set_cons_succ, List.set_cons_zero]
  unfold b1
  rw [exCs, exC, evE]
  simp only [evEs]
  rw [evE]
  simp only [evEs]
  rw [compc (vs := hs) rfl (by simp) h0.bt h0.ln, Res.bind_ok]
  simp only [Res.bind_ok]
  rw [show primD ML.cls ML.gc ML.rp .tuple [D.loc S.length] (S ++ [O.lst (hs.map (cpD S))]) = .ok (.tup (hs.map (cpD S))) (S ++ [O.lst (hs.map (cpD S))]) by
    show (match seqOf (S ++ [O.lst (hs.map (cpD S))]) (.loc S.length) with | some ds => Res.ok (D.tup ds) _ | none => .bad) = _
    rw [seq_at get_last]]
  simp only [Res.bind_ok]
  rw [show primD ML.cls ML.gc ML.rp .repr [D.tup (hs.map (cpD S))] (S ++ [O.lst (hs.map (cpD S))]) = _ from rp]
  simp only [Res.bind_ok]
  rw [asT, if_pos (by simp)]
  simp only [Res.bind_ok, List.set_cons_succ, List.set_cons_zero]
  rw [exCs, exC, evE, evE, evE]
  simp only [evEs]
  rw [callv_ev (fn := fn) (x := x) rfl rfl fx]
  simp only [Res.bind_ok]
  rw [show primD ML.cls ML.gc ML.rp .repr [D.tup (hs.map (cpD S))] (S ++ [O.lst (hs.map (cpD S))]) = _ from rp]
  simp only [Res.bind_ok]
  rw [evE]
  simp only [List.getElem?_cons_zero, List.getElem?_cons_succ, Res.bind_ok]
  rw [ne_str so]
  simp only [Res.bind_ok]
  rw [evE, evE, evE]
  simp only [evEs]
  rw [callv_ev (fn := fn) (x := y) rfl rfl fy]
  simp only [Res.bind_ok]
  rw [show primD ML.cls ML.gc ML.rp .repr [D.tup (hs.map (cpD S))] (S ++ [O.lst (hs.map (cpD S))]) = _ from rp]
  simp only [Res.bind_ok]
  rw [evE]
  simp only [List.getElem?_cons_zero, List.getElem?_cons_succ, Res.bind_ok]
  rw [ne_str so]
  simp only [Res.bind_ok]
  simp only [evE, List.getElem?_cons_zero, List.getElem?_cons_succ, Res.bind_ok]
  rw [show cmpD ML.mcall ML.cls .NotEq (.loc x) (.loc y) (S ++ [O.lst (hs.map (cpD S))]) = _ from h1.ne]
  simp only [Res.bind_ok]
  rw [show cmpD ML.mcall ML.cls .Eq (.loc x) (.loc y) (S ++ [O.lst (hs.map (cpD S))]) = _ from h1.eq]
  simp only [Res.bind_ok, Bool.not_true, exCs]
theorem loop1 {f : D → En → Sto → Res Fl} {r : Nat} {ds : List D} {e0 e1 e2 e3 e4 e5 e6 e7 e8 e9 o15 o16 : Option D} (hf : ∀ x σ S, f x σ S = (asT ML (PV.T.tup (Ts.cons (T.var 10) (Ts.cons (T.var 11) (Ts.cons (T.var 12) (Ts.cons (T.var 13) Ts.nil))))) x σ S).bind fun σ1 S1 => exCs ML 0 b1 σ1 S1) :
    ∀ (xs : List D) (S : Sto) (o10 o11 o12 o13 o14 : Option D), S[r]? = some (.lst ds) → (∀ R ∈ xs, ∃ x y hs fn, R = .tup [.loc x, .loc y, .tup hs, fn] ∧ ∀ X, RowOk (S ++ X) x y hs fn) → ∃ o10' o11' o12' o13' o14' X, forGo f [(r, ds)] xs [e0, e1, e2, e3, e4, e5, e6, e7, e8, e9, o10, o11, o12, o13, o14, o15, o16] S = .ok (.nx [e0, e1, e2, e3, e4, e5, e6, e7, e8, e9, o10', o11', o12', o13', o14', o15, o16]) (S ++ X)
  | [], S, o10, o11, o12, o13, o14, hr, _ => ⟨o10, o11, o12, o13, o14, [], by rw [forGo, if_pos (by unfold stay; rw [decide_eq_true hr]; rfl), List.append_nil]⟩
  | R :: xs, S, o10, o11, o12, o13, o14, hr, hx => by
    obtain ⟨x, y, hs, fn, rfl, h⟩ := hx R List.mem_cons_self
    obtain ⟨s, X, e⟩ := body1 (e0 := e0) (e1 := e1) (e2 := e2) (e3 := e3) (e4 := e4) (e5 := e5) (e6 := e6) (e7 := e7) (e8 := e8) (e9 := e9) (o10 := o10) (o11 := o11) (o12 := o12) (o13 := o13) (o14 := o14) (o15 := o15) (o16 := o16) h
    obtain ⟨q0, q1, q2, q3, q4, X2, e'⟩ := loop1 (e0 := e0) (e1 := e1) (e2 := e2) (e3 := e3) (e4 := e4) (e5 := e5) (e6 := e6) (e7 := e7) (e8 := e8) (e9 := e9) (o15 := o15) (o16 := o16) hf xs (S ++ X) (some (.loc x)) (some (.loc y)) (some (.tup hs)) (some fn) (some (.str s)) (get_left hr) (fun R hR => by
      obtain ⟨x, y, hs, fn, e1, h1⟩ := hx R (List.mem_cons_of_mem _ hR)
      exact ⟨x, y, hs, fn, e1, fun X' => by rw [List.append_assoc]; exact h1 _⟩)
    refine ⟨q0, q1, q2, q3, q4, X ++ X2, ?_⟩
    rw [forGo, if_pos (by unfold stay; rw [decide_eq_true hr]; rfl), ← List.append_assoc]
    rw [hf, e]
    simp only [Res.bind_ok]
    exact e'
end K90

namespace K90
open PySem PySem.Spec PyProof.Rows L2 PV
def b2 : Cs := Cs.cons (C.asg (T.var 15) (((E.var 9).idx (E.bin Operator.Mod (E.prim Prim.int (Es.cons (E.bin Operator.Add (E.bin Operator.Add (E.var 3) (E.lit (D.int 1))) (E.call "_law_draw" (Es.cons (E.var 1) (Es.cons (E.bin Operator.Sub (E.prim Prim.len (Es.cons (E.var 9) Es.nil)) (E.lit (D.int 1))) Es.nil)))) Es.nil)) (E.prim Prim.len (Es.cons (E.var 9) Es.nil)))).idx (E.lit (D.int 0))))
  (Cs.cons (C.iff ((E.cmp CmpOp.Eq (((E.var 9).idx (E.var 3)).idx (E.lit (D.int 0))) (E.var 15)).or (E.cmp CmpOp.NotEq (((E.var 9).idx (E.var 3)).idx (E.lit (D.int 0))) (E.var 15)).not) (Cs.cons (C.ret (Oe.some (E.lit (D.bl false)))) Cs.nil) Cs.nil) Cs.nil)
/-- the rows' first parts: of sixteen classes -/
structure Rws (S : Sto) (r : Nat) (ds : List D) (cs : List Str) : Prop where
  hr : S[r]? = some (.lst ds)
  hl : ds.length = 16
  nd : ∀ i j, i < 16 → j < 16 → i ≠ j → cs[i]? ≠ cs[j]?
  hx : ∀ i, i < 16 → ∃ x c fs rest, ds[i]? = some (.tup (.loc x :: rest)) ∧ S[x]? = some (.ins c fs) ∧ cls90.contains c = true ∧ cs[i]? = some c
theorem Rws.kp {p : Nat} {S S' : Sto} {r : Nat} {ds : List D} {cs : List Str} (h : Rws S r ds cs) (k : Kp p S S') (hp : isDct S[p]? = true) : Rws S' r ds cs := by
  have ne : ∀ n o, S[n]? = some o → isDct (some o) = false → n ≠ p := fun n o e e2 z => by
    rw [z] at e
    rw [e, e2] at hp
    cases hp
  refine ⟨k.2 _ _ (ne _ _ h.hr rfl) h.hr, h.hl, h.nd, fun i hi => ?_⟩
  obtain ⟨x, c, fs, rest, a1, a2, a3, a4⟩ := h.hx i hi
  exact ⟨x, c, fs, rest, a1, k.2 _ _ (ne _ _ a2 rfl) a2, a3, a4⟩
theorem idx_tup0 {S : Sto} {x : D} {rest : List D} : idxD (.tup (x :: rest)) (.int 0) S = .ok x S := by
  obtain ⟨w, a1, a2⟩ := atI_ok (xs := x :: rest) (i := 0) (by decide) (by rw [List.length_cons]; omega)
  have e : w = x := by
    have : (x :: rest)[0]? = some w := a2
    rw [List.getElem?_cons_zero] at this
    injection this with this
    exact this.symm
  unfold idxD
  dsimp only
  rw [a1, e]
theorem idx_nat {S : Sto} {r i : Nat} {ds : List D} {v : D} (hr : S[r]? = some (.lst ds)) (hi : ds[i]? = some v) : idxD (.loc r) (.int (i : Int)) S = .ok v S := by
  have hlt : i < ds.length := (List.getElem?_eq_some_iff.mp hi).1
  obtain ⟨w, a1, a2⟩ := atI_ok (xs := ds) (i := (i : Int)) (by omega) (by omega)
  rw [Int.toNat_natCast, hi] at a2
  injection a2 with a2
  rw [idx_lst hr a1, a2]
theorem body2 {S : Sto} {p c n r i : Nat} {q : Pen} {cells : List Int} {ds : List D} {cs : List Str} {e0 e2 e4 e5 e6 e7 e8 o3 o10 o11 o12 o13 o14 o15 o16 : Option D} (h : PenAt S p c cells q) (ok : q.Ok n) (hn : n < 1000) (R : Rws S r ds cs) (hi : i < 16) :
    ∃ d S' q', ((asT ML (T.var 3) (.int (i : Int)) [e0, some (.loc p), e2, o3, e4, e5, e6, e7, e8, some (.loc r), o10, o11, o12, o13, o14, o15, o16] S).bind fun σ1 S1 => exCs ML 0 b2 σ1 S1) = .ok (.nx [e0, some (.loc p), e2, some (.int (i : Int)), e4, e5, e6, e7, e8, some (.loc r), o10, o11, o12, o13, o14, some d, o16]) S' ∧ PenAt S' p c cells q' ∧ q'.Ok (n + 1) ∧ Kp p S S' := by
  obtain ⟨z, q', e, z0, z1, ok'⟩ := draw_at 7 (many := 15) h ok hn (by decide) (by decide)
  have hp : isDct S[p]? = true := by rw [h.hp]; rfl
  have k : Kp p S (S.set p (penO c q')) := Kp.set
  have R' := R.kp k hp
  have hj0 : 0 ≤ ((i : Int) + 1 + z).fmod 16 := Int.fmod_nonneg_of_pos _ (by decide)
  have hj1 : ((i : Int) + 1 + z).fmod 16 < 16 := Int.fmod_lt_of_pos _ (by decide)
  obtain ⟨j, hj⟩ : ∃ j : Nat, ((i : Int) + 1 + z).fmod 16 = j := ⟨(((i : Int) + 1 + z).fmod 16).toNat, by omega⟩
  have hje : ((i : Int) + 1 + z) % 16 = j := by
    rw [← hj, Int.fmod_eq_emod_of_nonneg _ (by decide)]
  have hji : j ≠ i := by omega
  obtain ⟨x, c1, fs1, rest1, a1, a2, a3, a4⟩ := R'.hx i hi
  obtain ⟨y, c2, fs2, rest2, d1, d2, d3, d4⟩ := R'.hx j (by omega)
  have hne : c2 ≠ c1 := fun z => R.nd j i (by omega) hi hji (by rw [d4, a4, z])
  refine ⟨.loc y, _, q', ?_, h.put q', ok', k⟩
  have len1 : primD ML.cls ML.gc ML.rp .len [D.loc r] S = .ok (.int (16 : Int)) S := by
    rw [p_len (seq_at R.hr), R.hl]
    rfl
  have len2 : primD ML.cls ML.gc ML.rp .len [D.loc r] (S.set p (penO c q')) = .ok (.int (16 : Int)) (S.set p (penO c q')) := by
    rw [p_len (seq_at R'.hr), R.hl]
    rfl
  rw [asT, if_pos (by simp)]
  simp only [Res.bind_ok, List.set_cons_succ, List.set_cons_zero]
  unfold b2
  rw [exCs, exC]
  simp only [evE, evEs, List.getElem?_cons_zero, List.getElem?_cons_succ, Res.bind_ok, b_add, len1]
  rw [show binD .Sub (.int 16) (.int 1) S = .ok (.int 15) S from rfl]
  simp only [Res.bind_ok, s_call]
  rw [e]
  simp only [Res.bind_ok, b_add, p_int, len2]
  rw [b_mod (by decide), hj]
  simp only [Res.bind_ok]
  rw [idx_nat R'.hr d1]
  simp only [Res.bind_ok, idx_tup0]
  rw [asT, if_pos (by simp)]
  simp only [Res.bind_ok, List.set_cons_succ, List.set_cons_zero]
  rw [exCs, exC]
  simp only [evE, evEs, List.getElem?_cons_zero, List.getElem?_cons_succ, Res.bind_ok]
  rw [idx_nat R'.hr a1]
  simp only [Res.bind_ok, idx_tup0]
  rw [show cmpD ML.mcall ML.cls .Eq (.loc x) (.loc y) (S.set p (penO c q')) = .ok (.bl false) (S.set p (penO c q')) from (cmp_own_eq a2 d2 a3 d3).trans (eqd_all 6 a3 d2 d3 hne)]
  simp only [Res.bind_ok]
  rw [idx_nat R'.hr a1]
  simp only [Res.bind_ok, idx_tup0]
  rw [show cmpD ML.mcall ML.cls .NotEq (.loc x) (.loc y) (S.set p (penO c q')) = .ok (.bl true) (S.set p (penO c q')) from (cmp_own_ne a2 d2 a3 d3).trans (ne_of_eq (b := false) 7 rfl (ne_lk a3) a2 d2 a3 d3 (eqd_all 5 a3 d2 d3 hne))]
  simp only [Res.bind_ok, Bool.not_true, exCs]
theorem loop2 {f : D → En → Sto → Res Fl} {p c r : Nat} {cells : List Int} {ds : List D} {cs : List Str} {e0 e2 e4 e5 e6 e7 e8 o10 o11 o12 o13 o14 o16 : Option D} (hf : ∀ x σ S, f x σ S = (asT ML (T.var 3) x σ S).bind fun σ1 S1 => exCs ML 0 b2 σ1 S1) :
    ∀ (xs : List Nat) (S : Sto) (q : Pen) (n : Nat) (o3 o15 : Option D), (∀ i ∈ xs, i < 16) → PenAt S p c cells q → q.Ok n → n + xs.length ≤ 1000 → Rws S r ds cs → ∃ o3' o15' S' q', forGo f [] (xs.map fun (i : Nat) => D.int (i : Int)) [e0, some (.loc p), e2, o3, e4, e5, e6, e7, e8, some (.loc r), o10, o11, o12, o13, o14, o15, o16] S = .ok (.nx [e0, some (.loc p), e2, o3', e4, e5, e6, e7, e8, some (.loc r), o10, o11, o12, o13, o14, o15', o16]) S' ∧ PenAt S' p c cells q' ∧ Kp p S S'
  | [], S, q, n, o3, o15, _, h, _, _, _ => ⟨o3, o15, S, q, by rw [List.map_nil, forGo, if_pos (by rfl)], h, Kp.refl⟩
  | i :: xs, S, q, n, o3, o15, hx, h, ok, hn, R => by
    rw [List.length_cons] at hn
    obtain ⟨d, S1, q1, e, h1, ok1, k1⟩ := body2 (e0 := e0) (e2 := e2) (e4 := e4) (e5 := e5) (e6 := e6) (e7 := e7) (e8 := e8) (o3 := o3) (o10 := o10) (o11 := o11) (o12 := o12) (o13 := o13) (o14 := o14) (o15 := o15) (o16 := o16) h ok (by omega) R (hx i List.mem_cons_self)
    obtain ⟨o3', o15', S', q', e2', h2, k2⟩ := loop2 (e0 := e0) (e2 := e2) (e4 := e4) (e5 := e5) (e6 := e6) (e7 := e7) (e8 := e8) (o10 := o10) (o11 := o11) (o12 := o12) (o13 := o13) (o14 := o14) (o16 := o16) hf xs S1 q1 (n + 1) (some (.int (i : Int))) (some d) (fun j hj => hx j (List.mem_cons_of_mem _ hj)) h1 ok1 (by omega) (R.kp k1 (by rw [h.hp]; rfl))
    refine ⟨o3', o15', S', q', ?_, h2, k1.trans k2⟩
    rw [List.map_cons, forGo, if_pos (by rfl), hf, e]
    simp only [Res.bind_ok]
    exact e2'
theorem comp3 {σ : En} {S : Sto} (hl : 11 < σ.length) : ∃ X r n, evE ML (E.comp [10, 11] (PV.T.tup (Ts.cons (T.var 10) (Ts.cons (T.var 11) Ts.nil))) (I.seq (E.call "_law_unlike" Es.nil)) Oe.none ((E.cmp CmpOp.Eq (E.var 10) (E.var 11)).or (E.cmp CmpOp.NotEq (E.var 10) (E.var 11)).not)) σ S = .ok (.loc r) (S ++ X) ∧ (S ++ X)[r]? = some (.lst (List.replicate n (.bl false))) := by
  obtain ⟨r, ds, X, e, e1, e2, e3⟩ := unlike_spec (S := S)
  obtain ⟨f, fe, hf⟩ : ∃ f : D → Sto → Res (List D), f = (fun x S => (asT ML (PV.T.tup (Ts.cons (T.var 10) (Ts.cons (T.var 11) Ts.nil))) x (wipe σ [10, 11]) S).bind fun σ1 S1 => (evC ML .none σ1 S1).bind fun b S2 => match b with
        | true => (evE ML ((E.cmp CmpOp.Eq (E.var 10) (E.var 11)).or (E.cmp CmpOp.NotEq (E.var 10) (E.var 11)).not) σ1 S2).bind fun v S3 => .ok [v] S3
        | false => .ok [] S2) ∧ ∀ x, PairLk (S ++ X) x → f x (S ++ X) = .ok [.bl false] (S ++ X) := by
    refine ⟨_, rfl, fun x b => ?_⟩
    obtain ⟨c, fs, gs, a, b, ⟨p0, p1⟩, rfl, h1, h2⟩ := b
    have hw : wipe σ [10, 11] = (σ.set 11 none).set 10 none := rfl
    have g10 : ((((σ.set 11 none).set 10 none).set 10 (some (D.loc a))).set 11 (some (D.loc b)))[10]? = some (some (.loc a)) := by
      rw [List.getElem?_set_ne (by decide), List.getElem?_set_self (by simp; omega)]
    have g11 : ((((σ.set 11 none).set 10 none).set 10 (some (D.loc a))).set 11 (some (D.loc b)))[11]? = some (some (.loc b)) := by
      rw [List.getElem?_set_self (by simp; omega)]
    rw [hw, asT]
    simp only [seqOf, asTs]
    rw [asT, if_pos (by simp; omega)]
    simp only [Res.bind_ok]
    rw [asT, if_pos (by simp; omega)]
    simp only [Res.bind_ok]
    rw [evC, Res.bind_ok]
    dsimp only
    simp only [evE, g10, g11, Res.bind_ok]
    rw [show cmpD ML.mcall ML.cls .Eq (.loc a) (.loc b) (S ++ X) = .ok (.bl false) (S ++ X) from (cmp_own_eq h1 h2 p0 p0).trans (p1 6 _ _ _ h1 h2)]
    simp only [Res.bind_ok]
    rw [show cmpD ML.mcall ML.cls .NotEq (.loc a) (.loc b) (S ++ X) = .ok (.bl true) (S ++ X) from (cmp_own_ne h1 h2 p0 p0).trans (ne_of_eq (b := false) 7 rfl (ne_lk p0) h1 h2 p0 p0 (p1 5 _ _ _ h1 h2))]
    simp only [Res.bind_ok, Bool.not_true]
  have hg : stay (S ++ X) [(r, ds)] = true := by unfold stay; rw [decide_eq_true e1]; rfl
  have go : ∀ (xs : List D) (m : Nat), (∀ x ∈ xs, PairLk (S ++ X) x) → m + xs.length ≤ 100 → compGo f [(r, ds)] xs (List.replicate m (.bl false)) (S ++ X) = .ok (List.replicate (m + xs.length) (.bl false)) (S ++ X) := by
    intro xs
    induction xs with
    | nil => intro m _ _; rw [compGo, if_pos hg]; rfl
    | cons x xs ih =>
      intro m hx hl
      rw [List.length_cons] at hl
      rw [compGo, if_pos hg, hf x (hx x List.mem_cons_self), Res.bind_ok, if_pos (by have : mostLen = 100000 := rfl; rw [List.length_replicate]; omega)]
      rw [show List.replicate m (D.bl false) ++ [.bl false] = List.replicate (m + 1) (.bl false) by rw [List.replicate_succ']]
      rw [ih (m + 1) (fun v hv => hx v (List.mem_cons_of_mem _ hv)) (by omega), List.length_cons, show m + 1 + xs.length = m + (xs.length + 1) by omega]
  have e4 := go ds 0 e3 (by omega)
  subst fe
  refine ⟨X ++ [.lst (List.replicate (0 + ds.length) (.bl false))], (S ++ X).length, _, ?_, by rw [← List.append_assoc]; exact get_last⟩
  have lo : PV.listOf (S ++ X) (.loc r) = some ds := by unfold PV.listOf; dsimp only; rw [e1]
  rw [evE]
  have ei : evI ML (I.seq (E.call "_law_unlike" Es.nil)) σ S = .ok (ds, [(r, ds)]) (S ++ X) := by
    simp only [evI, evE, evEs, Res.bind_ok, s_call]
    rw [e]
    simp only [Res.bind_ok, lo]
  rw [ei, Res.bind_ok, ← List.append_assoc]
  exact (congrArg (fun z => Res.bind z fun acc S2 => newO (.lst acc) S2) e4).trans rfl
theorem any_false {S : Sto} {r n : Nat} (h : S[r]? = some (.lst (List.replicate n (.bl false)))) : primD ML.cls ML.gc ML.rp .any [D.loc r] S = .ok (.bl false) S := by
  show (match PV.listOf S (.loc r) with
    | some ds => (match PV.allB ds with | some bs => Res.ok (D.bl (bs.any id)) S | none => .bad)
    | none => .bad) = _
  rw [show PV.listOf S (.loc r) = some (List.replicate n (.bl false)) by unfold PV.listOf; dsimp only; rw [h]]
  have : ∀ n, PV.allB (List.replicate n (D.bl false)) = some (List.replicate n false) := by
    intro n
    induction n with
    | zero => rfl
    | succ n ih => rw [List.replicate_succ, PV.allB, ih]; rfl
  dsimp only
  rw [this]
  dsimp only
  congr 2
  induction n with
  | zero => rfl
  | succ n ih => simp
end K90

namespace K90
open PySem PySem.Spec PyProof.Rows L2 PV
/-! ### the law -/
theorem lk {S T X : Sto} {j : Nat} {o : O} (h : T[j]? = some o) : (S ++ (T ++ X))[S.length + j]? = some o := by
  rw [get_app]
  exact get_left h
def names : List Str := ["Stresses", "Stills", "Carries", "Yields", "Factor", "Range", "Moves", "Gives", "Moment", "Bends", "Loose", "Line", "Paper", "Design", "Model", "Endless"]
theorem names_nd : ∀ i j : Fin 16, i ≠ j → names[i.1]? ≠ names[j.1]? := by decide +kernel
theorem vc_5 {S : Sto} : Vc S (.int 5) (.int 5) := ⟨bt_int, fv_int gd_5⟩
theorem rows_ok {S : Sto} {a b c d : D} {pa pb pc pd : PyData} (ha : Vc S a pa) (hb : Vc S b pb) (hc : Vc S c pc) (hd : Vc S d pd) : ∀ R ∈ rds S.length 0 (rinf S a b c d), ∃ x y hs fn, R = .tup [.loc x, .loc y, .tup hs, fn] ∧ ∀ X, RowOk (S ++ rsto S.length (rinf S a b c d) ++ X) x y hs fn := by
  intro R hR
  simp only [rinf, rds, List.mem_cons, List.not_mem_nil, or_false] at hR
  rcases hR with rfl | rfl | rfl | rfl | rfl | rfl | rfl | rfl | rfl | rfl | rfl | rfl | rfl | rfl | rfl | rfl
  · refine ⟨S.length + 0, S.length + 1, [a], _, rfl, fun X => ?_⟩
    rw [List.append_assoc]
    have Aa := (bt_app (T := rsto S.length (rinf S a b c d) ++ X) ha.bt).2
    have Ab := (bt_app (T := rsto S.length (rinf S a b c d) ++ X) hb.bt).2
    have Ac := (bt_app (T := rsto S.length (rinf S a b c d) ++ X) hc.bt).2
    have Ad := (bt_app (T := rsto S.length (rinf S a b c d) ++ X) hd.bt).2
    exact row_Stresses (v1 := a) (by rw [Aa]; exact lk (by kernel_rfl)) (by rw [Aa]; exact lk (by kernel_rfl)) ha.app
  · refine ⟨S.length + 3, S.length + 4, [a], _, rfl, fun X => ?_⟩
    rw [List.append_assoc]
    have Aa := (bt_app (T := rsto S.length (rinf S a b c d) ++ X) ha.bt).2
    have Ab := (bt_app (T := rsto S.length (rinf S a b c d) ++ X) hb.bt).2
    have Ac := (bt_app (T := rsto S.length (rinf S a b c d) ++ X) hc.bt).2
    have Ad := (bt_app (T := rsto S.length (rinf S a b c d) ++ X) hd.bt).2
    exact row_Stills (v1 := a) (by rw [Aa]; exact lk (by kernel_rfl)) (by rw [Aa]; exact lk (by kernel_rfl)) ha.app
  · refine ⟨S.length + 5, S.length + 6, [b], _, rfl, fun X => ?_⟩
    rw [List.append_assoc]
    have Aa := (bt_app (T := rsto S.length (rinf S a b c d) ++ X) ha.bt).2
    have Ab := (bt_app (T := rsto S.length (rinf S a b c d) ++ X) hb.bt).2
    have Ac := (bt_app (T := rsto S.length (rinf S a b c d) ++ X) hc.bt).2
    have Ad := (bt_app (T := rsto S.length (rinf S a b c d) ++ X) hd.bt).2
    exact row_Carries (v1 := b) (by rw [Ab]; exact lk (by kernel_rfl)) (by rw [Ab]; exact lk (by kernel_rfl)) hb.app
  · refine ⟨S.length + 7, S.length + 8, [a, b], _, rfl, fun X => ?_⟩
    rw [List.append_assoc]
    have Aa := (bt_app (T := rsto S.length (rinf S a b c d) ++ X) ha.bt).2
    have Ab := (bt_app (T := rsto S.length (rinf S a b c d) ++ X) hb.bt).2
    have Ac := (bt_app (T := rsto S.length (rinf S a b c d) ++ X) hc.bt).2
    have Ad := (bt_app (T := rsto S.length (rinf S a b c d) ++ X) hd.bt).2
    exact row_Yields (v1 := a) (v2 := b) (by rw [Aa, Ab]; exact lk (by kernel_rfl)) (by rw [Aa, Ab]; exact lk (by kernel_rfl)) ha.app hb.app
  · refine ⟨S.length + 9, S.length + 10, [c], _, rfl, fun X => ?_⟩
    rw [List.append_assoc]
    have Aa := (bt_app (T := rsto S.length (rinf S a b c d) ++ X) ha.bt).2
    have Ab := (bt_app (T := rsto S.length (rinf S a b c d) ++ X) hb.bt).2
    have Ac := (bt_app (T := rsto S.length (rinf S a b c d) ++ X) hc.bt).2
    have Ad := (bt_app (T := rsto S.length (rinf S a b c d) ++ X) hd.bt).2
    exact row_Factor (v1 := c) (by rw [Ac]; exact lk (by kernel_rfl)) (by rw [Ac]; exact lk (by kernel_rfl)) hc.app
  · refine ⟨S.length + 11, S.length + 12, [a, b], _, rfl, fun X => ?_⟩
    rw [List.append_assoc]
    have Aa := (bt_app (T := rsto S.length (rinf S a b c d) ++ X) ha.bt).2
    have Ab := (bt_app (T := rsto S.length (rinf S a b c d) ++ X) hb.bt).2
    have Ac := (bt_app (T := rsto S.length (rinf S a b c d) ++ X) hc.bt).2
    have Ad := (bt_app (T := rsto S.length (rinf S a b c d) ++ X) hd.bt).2
    exact row_Range (v1 := a) (v2 := b) (by rw [Aa, Ab]; exact lk (by kernel_rfl)) (by rw [Aa, Ab]; exact lk (by kernel_rfl)) ha.app hb.app
  · refine ⟨S.length + 13, S.length + 14, [d], _, rfl, fun X => ?_⟩
    rw [List.append_assoc]
    have Aa := (bt_app (T := rsto S.length (rinf S a b c d) ++ X) ha.bt).2
    have Ab := (bt_app (T := rsto S.length (rinf S a b c d) ++ X) hb.bt).2
    have Ac := (bt_app (T := rsto S.length (rinf S a b c d) ++ X) hc.bt).2
    have Ad := (bt_app (T := rsto S.length (rinf S a b c d) ++ X) hd.bt).2
    exact row_Moves (v1 := d) (by rw [Ad]; exact lk (by kernel_rfl)) (by rw [Ad]; exact lk (by kernel_rfl)) hd.app
  · refine ⟨S.length + 15, S.length + 16, [d], _, rfl, fun X => ?_⟩
    rw [List.append_assoc]
    have Aa := (bt_app (T := rsto S.length (rinf S a b c d) ++ X) ha.bt).2
    have Ab := (bt_app (T := rsto S.length (rinf S a b c d) ++ X) hb.bt).2
    have Ac := (bt_app (T := rsto S.length (rinf S a b c d) ++ X) hc.bt).2
    have Ad := (bt_app (T := rsto S.length (rinf S a b c d) ++ X) hd.bt).2
    exact row_Gives (v1 := d) (by rw [Ad]; exact lk (by kernel_rfl)) (by rw [Ad]; exact lk (by kernel_rfl)) hd.app
  · refine ⟨S.length + 17, S.length + 18, [c], _, rfl, fun X => ?_⟩
    rw [List.append_assoc]
    have Aa := (bt_app (T := rsto S.length (rinf S a b c d) ++ X) ha.bt).2
    have Ab := (bt_app (T := rsto S.length (rinf S a b c d) ++ X) hb.bt).2
    have Ac := (bt_app (T := rsto S.length (rinf S a b c d) ++ X) hc.bt).2
    have Ad := (bt_app (T := rsto S.length (rinf S a b c d) ++ X) hd.bt).2
    exact row_Moment (v1 := c) (by rw [Ac]; exact lk (by kernel_rfl)) (by rw [Ac]; exact lk (by kernel_rfl)) hc.app
  · refine ⟨S.length + 19, S.length + 20, [c], _, rfl, fun X => ?_⟩
    rw [List.append_assoc]
    have Aa := (bt_app (T := rsto S.length (rinf S a b c d) ++ X) ha.bt).2
    have Ab := (bt_app (T := rsto S.length (rinf S a b c d) ++ X) hb.bt).2
    have Ac := (bt_app (T := rsto S.length (rinf S a b c d) ++ X) hc.bt).2
    have Ad := (bt_app (T := rsto S.length (rinf S a b c d) ++ X) hd.bt).2
    exact row_Bends (v1 := c) (by rw [Ac]; exact lk (by kernel_rfl)) (by rw [Ac]; exact lk (by kernel_rfl)) hc.app
  · refine ⟨S.length + 21, S.length + 22, [d], _, rfl, fun X => ?_⟩
    rw [List.append_assoc]
    have Aa := (bt_app (T := rsto S.length (rinf S a b c d) ++ X) ha.bt).2
    have Ab := (bt_app (T := rsto S.length (rinf S a b c d) ++ X) hb.bt).2
    have Ac := (bt_app (T := rsto S.length (rinf S a b c d) ++ X) hc.bt).2
    have Ad := (bt_app (T := rsto S.length (rinf S a b c d) ++ X) hd.bt).2
    exact row_Loose (v1 := d) (by rw [Ad]; exact lk (by kernel_rfl)) (by rw [Ad]; exact lk (by kernel_rfl)) hd.app
  · refine ⟨S.length + 23, S.length + 24, [a], _, rfl, fun X => ?_⟩
    rw [List.append_assoc]
    have Aa := (bt_app (T := rsto S.length (rinf S a b c d) ++ X) ha.bt).2
    have Ab := (bt_app (T := rsto S.length (rinf S a b c d) ++ X) hb.bt).2
    have Ac := (bt_app (T := rsto S.length (rinf S a b c d) ++ X) hc.bt).2
    have Ad := (bt_app (T := rsto S.length (rinf S a b c d) ++ X) hd.bt).2
    exact row_Line (v1 := a) (by rw [Aa]; exact lk (by kernel_rfl)) (by rw [Aa]; exact lk (by kernel_rfl)) ha.app
  · refine ⟨S.length + 25, S.length + 26, [a], _, rfl, fun X => ?_⟩
    rw [List.append_assoc]
    have Aa := (bt_app (T := rsto S.length (rinf S a b c d) ++ X) ha.bt).2
    have Ab := (bt_app (T := rsto S.length (rinf S a b c d) ++ X) hb.bt).2
    have Ac := (bt_app (T := rsto S.length (rinf S a b c d) ++ X) hc.bt).2
    have Ad := (bt_app (T := rsto S.length (rinf S a b c d) ++ X) hd.bt).2
    exact row_Paper (v1 := a) (by rw [Aa]; exact lk (by kernel_rfl)) (by rw [Aa]; exact lk (by kernel_rfl)) ha.app
  · refine ⟨S.length + 27, S.length + 28, [a, b], _, rfl, fun X => ?_⟩
    rw [List.append_assoc]
    have Aa := (bt_app (T := rsto S.length (rinf S a b c d) ++ X) ha.bt).2
    have Ab := (bt_app (T := rsto S.length (rinf S a b c d) ++ X) hb.bt).2
    have Ac := (bt_app (T := rsto S.length (rinf S a b c d) ++ X) hc.bt).2
    have Ad := (bt_app (T := rsto S.length (rinf S a b c d) ++ X) hd.bt).2
    exact row_Design (v1 := a) (v2 := b) (by rw [Aa, Ab]; exact lk (by kernel_rfl)) (by rw [Aa, Ab]; exact lk (by kernel_rfl)) ha.app hb.app
  · refine ⟨S.length + 29, S.length + 30, [a, b, c, d, .int 5], _, rfl, fun X => ?_⟩
    rw [List.append_assoc]
    have Aa := (bt_app (T := rsto S.length (rinf S a b c d) ++ X) ha.bt).2
    have Ab := (bt_app (T := rsto S.length (rinf S a b c d) ++ X) hb.bt).2
    have Ac := (bt_app (T := rsto S.length (rinf S a b c d) ++ X) hc.bt).2
    have Ad := (bt_app (T := rsto S.length (rinf S a b c d) ++ X) hd.bt).2
    exact row_Model (v1 := a) (v2 := b) (v3 := c) (v4 := d) (v5 := .int 5) (by rw [Aa, Ab, Ac, Ad]; exact lk (by kernel_rfl)) (by rw [Aa, Ab, Ac, Ad]; exact lk (by kernel_rfl)) ha.app hb.app hc.app hd.app vc_5
  · refine ⟨S.length + 31, S.length + 32, [], _, rfl, fun X => ?_⟩
    rw [List.append_assoc]
    have Aa := (bt_app (T := rsto S.length (rinf S a b c d) ++ X) ha.bt).2
    have Ab := (bt_app (T := rsto S.length (rinf S a b c d) ++ X) hb.bt).2
    have Ac := (bt_app (T := rsto S.length (rinf S a b c d) ++ X) hc.bt).2
    have Ad := (bt_app (T := rsto S.length (rinf S a b c d) ++ X) hd.bt).2
    exact row_Endless  (by exact lk (by kernel_rfl)) (by exact lk (by kernel_rfl)) 
theorem rws_ok {S X : Sto} {a b c d : D} : Rws (S ++ (rsto S.length (rinf S a b c d) ++ X)) (S.length + 2) (rds S.length 0 (rinf S a b c d)) names := by
  refine ⟨lk (by kernel_rfl), by kernel_rfl, fun i j hi hj h => names_nd ⟨i, hi⟩ ⟨j, hj⟩ fun e => h (congrArg Fin.val e), fun i hi => ?_⟩
  have h : i = 0 ∨ i = 1 ∨ i = 2 ∨ i = 3 ∨ i = 4 ∨ i = 5 ∨ i = 6 ∨ i = 7 ∨ i = 8 ∨ i = 9 ∨ i = 10 ∨ i = 11 ∨ i = 12 ∨ i = 13 ∨ i = 14 ∨ i = 15 := by omega
  rcases h with rfl | rfl | rfl | rfl | rfl | rfl | rfl | rfl | rfl | rfl | rfl | rfl | rfl | rfl | rfl | rfl
  · exact ⟨S.length + 0, "Stresses", _, _, rfl, lk (by rfl), by decide +kernel, rfl⟩
  · exact ⟨S.length + 3, "Stills", _, _, rfl, lk (by rfl), by decide +kernel, rfl⟩
  · exact ⟨S.length + 5, "Carries", _, _, rfl, lk (by rfl), by decide +kernel, rfl⟩
  · exact ⟨S.length + 7, "Yields", _, _, rfl, lk (by rfl), by decide +kernel, rfl⟩
  · exact ⟨S.length + 9, "Factor", _, _, rfl, lk (by rfl), by decide +kernel, rfl⟩
  · exact ⟨S.length + 11, "Range", _, _, rfl, lk (by rfl), by decide +kernel, rfl⟩
  · exact ⟨S.length + 13, "Moves", _, _, rfl, lk (by rfl), by decide +kernel, rfl⟩
  · exact ⟨S.length + 15, "Gives", _, _, rfl, lk (by rfl), by decide +kernel, rfl⟩
  · exact ⟨S.length + 17, "Moment", _, _, rfl, lk (by rfl), by decide +kernel, rfl⟩
  · exact ⟨S.length + 19, "Bends", _, _, rfl, lk (by rfl), by decide +kernel, rfl⟩
  · exact ⟨S.length + 21, "Loose", _, _, rfl, lk (by rfl), by decide +kernel, rfl⟩
  · exact ⟨S.length + 23, "Line", _, _, rfl, lk (by rfl), by decide +kernel, rfl⟩
  · exact ⟨S.length + 25, "Paper", _, _, rfl, lk (by rfl), by decide +kernel, rfl⟩
  · exact ⟨S.length + 27, "Design", _, _, rfl, lk (by rfl), by decide +kernel, rfl⟩
  · exact ⟨S.length + 29, "Model", _, _, rfl, lk (by rfl), by decide +kernel, rfl⟩
  · exact ⟨S.length + 31, "Endless", _, _, rfl, lk (by rfl), by decide +kernel, rfl⟩
theorem Kp.set2 {p n : Nat} {S S' : Sto} {o : O} (k : Kp p S S') (hn : n < S.length) : Kp p (S.set n o) (S'.set n o) := by
  refine ⟨by rw [List.length_set, List.length_set]; exact k.1, fun m o' hm e => ?_⟩
  by_cases h : m = n
  · subst h
    rw [List.getElem?_set_self hn] at e
    rw [List.getElem?_set_self (Nat.lt_of_lt_of_le hn k.1)]
    exact e
  · rw [List.getElem?_set_ne (Ne.symm h)] at e ⊢
    exact k.2 m o' hm e
theorem bt_lst {S : Sto} {n : Nat} {ds : List D} (h : S[n]? = some (.lst ds)) : Bt S (.loc n) ∧ PV.listOf S (.loc n) = some ds := by
  have e : PV.listOf S (.loc n) = some ds := by unfold PV.listOf; dsimp only; rw [h]
  refine ⟨⟨"list", ?_, by decide, by rw [e]; rfl⟩, e⟩
  show (match S[n]? with
    | some (.lst _) => some (Sum.inl "list") | some (.frz _) => some (.inl "list") | some (.dct _) => some (.inl "dict") | some (.ins c _) => some (.inr c) | none => none) = _
  rw [h]
/-- the repr that is looked at twice -/
theorem shown_rows {S : Sto} {r x : Nat} {v : D} {pd : PyData} {ds rest : List D} {σ : En} (h9 : σ[9]? = some (some (.loc r))) (hr : S[r]? = some (.lst ds)) (h0 : ds[0]? = some (.tup (.loc x :: rest))) (hx : S[x]? = some (.ins "Stresses" [("rows", v)])) (hv : Fv S v pd) : evE ML (E.prim Prim.repr (Es.cons ((((E.var 9).idx (E.lit (D.int 0))).idx (E.lit (D.int 0))).fld "rows") Es.nil)) σ S = .ok (.str pd.shown) S := by
  have f1 := fld_ins (f := "rows") (v := v) hx (by decide +kernel) (by kernel_rfl)
  have i0 : idxD (.loc r) (.int 0) S = .ok (.tup (.loc x :: rest)) S := idx_nat (i := 0) hr h0
  simp only [evE, evEs, h9, Res.bind_ok, i0, idx_tup0, s_attr, f1]
  exact repr_fv hv
theorem law_tail {S : Sto} {p r x : Nat} {v a : D} {pd : PyData} {ds rest : List D} {σ : En} (hl : 16 < σ.length) (h9 : σ[9]? = some (some (.loc r))) (h4 : σ[4]? = some (some a)) (hr : S[r]? = some (.lst ds)) (h0 : ds[0]? = some (.tup (.loc x :: rest))) (hx : S[x]? = some (.ins "Stresses" [("rows", v)])) (hv : Fv S v pd)
    (ha : (PV.listOf S a = none ∧ Bt S a) ∨ ∃ n ws, a = .loc n ∧ S[n]? = some (.lst ws) ∧ ws.length ≤ 10 ∧ n ≠ r ∧ n ≠ x ∧ ∀ o, Fv (S.set n o) v pd) :
    ∃ S', exCs ML 0 (Cs.cons (C.asg (T.var 16) (E.prim Prim.repr (Es.cons ((((E.var 9).idx (E.lit (D.int 0))).idx (E.lit (D.int 0))).fld "rows") Es.nil)))
      (Cs.cons (C.iff (E.prim Prim.isi (Es.cons (E.var 4) (Es.cons (E.lit (D.ty "list")) Es.nil))) (Cs.cons (C.expr (E.mth Mth.append (E.var 4) (Es.cons (E.lit (D.int 7)) Es.nil))) Cs.nil) Cs.nil)
        (Cs.cons (C.ret (Oe.some (E.cmp CmpOp.Eq (E.prim Prim.repr (Es.cons ((((E.var 9).idx (E.lit (D.int 0))).idx (E.lit (D.int 0))).fld "rows") Es.nil)) (E.var 16)))) Cs.nil))) σ S = .ok (.ret (.bl true)) S' := by
  have g9 : (σ.set 16 (some (D.str pd.shown)))[9]? = some (some (.loc r)) := by rw [List.getElem?_set_ne (by decide)]; exact h9
  have g4 : (σ.set 16 (some (D.str pd.shown)))[4]? = some (some a) := by rw [List.getElem?_set_ne (by decide)]; exact h4
  have g16 : (σ.set 16 (some (D.str pd.shown)))[16]? = some (some (.str pd.shown)) := List.getElem?_set_self hl
  rw [exCs, exC, shown_rows h9 hr h0 hx hv, Res.bind_ok, asT, if_pos hl]
  simp only [Res.bind_ok]
  rcases ha with ⟨n1, n2⟩ | ⟨n, ws, rfl, w1, w2, w3, w4, w5⟩
  · refine ⟨S, ?_⟩
    rw [exCs, exC, evE]
    simp only [evEs, evE, g4, Res.bind_ok, p_isi, isi_list n2, n1, Option.isSome_none, exCs]
    rw [exC, evE, shown_rows g9 hr h0 hx hv]
    simp only [Res.bind_ok, evE, g16]
    rw [eq_str hv.g.so]
    simp only [Res.bind_ok]
  · refine ⟨S.set n (.lst (ws ++ [.int 7])), ?_⟩
    obtain ⟨b1, b2⟩ := bt_lst w1
    rw [exCs, exC, evE]
    simp only [evEs, evE, g4, Res.bind_ok, p_isi, isi_list b1, b2, Option.isSome_some]
    rw [exCs, exC, evE]
    simp only [evEs, evE, g4, Res.bind_ok]
    rw [if_pos (by unfold mthOk; dsimp only; rw [w1])]
    rw [show mthD Mth.append (.loc n) [D.int 7] S = .ok .non (S.set n (.lst (ws ++ [.int 7]))) by
      unfold mthD
      dsimp only
      unfold appendM
      dsimp only
      rw [w1]
      dsimp only
      rw [if_pos (Nat.lt_of_le_of_lt w2 (by decide))]]
    simp only [Res.bind_ok, exCs]
    rw [exC, evE, shown_rows g9 (by rw [List.getElem?_set_ne w3]; exact hr) h0 (by rw [List.getElem?_set_ne w4]; exact hx) (w5 _)]
    simp only [Res.bind_ok, evE, g16]
    rw [eq_str hv.g.so]
    simp only [Res.bind_ok]
end K90

namespace K90
open PySem PySem.Spec PyProof.Rows L2 PV
theorem plain (ns : List Int) : ∃ S', runC (semL none true (lv 8)) n_law.length c_law.1 [.loc 0] [.frz (ns.map D.int)] = .ok (.bl true) S' := by
  obtain ⟨q0, e0, ok0⟩ := pen_spec (S := [.frz (ns.map D.int)]) (n := 0) (ns := ns) rfl
  have P0 : PenAt ([O.frz (ns.map D.int)] ++ [.lst (ns.map D.int), penO 1 q0]) 2 1 ns q0 := ⟨rfl, rfl, by decide⟩
  have e0' : (lv 8).cl "_law_pen" [.loc 0] [.frz (ns.map D.int)] = .ok (.loc 2) ([O.frz (ns.map D.int)] ++ [.lst (ns.map D.int), penO 1 q0]) := e0
  generalize hS1 : [O.frz (ns.map D.int)] ++ [O.lst (ns.map D.int), penO 1 q0] = S1 at P0 e0'
  obtain ⟨S2, q2, vs, r2, e2, v1, v2, P2, ok2, k2, v3⟩ := comp1 (σ := [some (.loc 0), some (.loc 2), none, none, none, none, none, none, none, none, none, none, none, none, none, none, none]) rfl (by simp) P0 ok0
  obtain ⟨X3, n3, ws, e3, w1, w2, w3⟩ := comp2 (σ := [some (.loc 0), some (.loc 2), some (.loc r2), none, none, none, none, none, none, none, none, none, none, none, none, none, none]) rfl (by simp) v1 v3 v2
  have P3 : PenAt (S2 ++ X3) 2 1 ns q2 := P2.app
  generalize hS3 : S2 ++ X3 = S3 at e3 w1 w3 P3
  obtain ⟨a, b, c, d, rfl⟩ : ∃ a b c d, ws = [a, b, c, d] := by
    match ws, w2 with
    | [a, b, c, d], _ => exact ⟨a, b, c, d, rfl⟩
  obtain ⟨pa, ha⟩ := w3 a (by simp)
  obtain ⟨pb, hb⟩ := w3 b (by simp)
  obtain ⟨pc, hc⟩ := w3 c (by simp)
  obtain ⟨pd, hd⟩ := w3 d (by simp)
  have e4 := rows_spec 0 ha.1.bt hb.1.bt hc.1.bt hd.1.bt
  have R4 := fun X => rws_ok (S := S3) (X := X) (a := a) (b := b) (c := c) (d := d)
  have RO := rows_ok ha.1 hb.1 hc.1 hd.1
  obtain ⟨o10, o11, o12, o13, o14, X5, e5⟩ := loop1 (f := fun x σ S => (asT ML (PV.T.tup (Ts.cons (T.var 10) (Ts.cons (T.var 11) (Ts.cons (T.var 12) (Ts.cons (T.var 13) Ts.nil))))) x σ S).bind fun σ1 S1 => exCs ML 0 b1 σ1 S1) (e0 := some (.loc 0)) (e1 := some (.loc 2)) (e2 := some (.loc r2)) (e3 := none) (e4 := some a) (e5 := some b) (e6 := some c) (e7 := some d) (e8 := none) (e9 := some (.loc (S3.length + 2))) (o15 := none) (o16 := none) (fun _ _ _ => rfl) (rds S3.length 0 (rinf S3 a b c d)) (S3 ++ rsto S3.length (rinf S3 a b c d)) none none none none none (by have := (R4 []).hr; rw [List.append_nil] at this; exact this) RO
  have R5 := R4 X5
  have P5 : PenAt (S3 ++ (rsto S3.length (rinf S3 a b c d) ++ X5)) 2 1 ns q2 := P3.app
  obtain ⟨o3, o15, S6, q6, e6, P6, k6⟩ := loop2 (f := fun x σ S => (asT ML (T.var 3) x σ S).bind fun σ1 S1 => exCs ML 0 b2 σ1 S1) (e0 := some (.loc 0)) (e2 := some (.loc r2)) (e4 := some a) (e5 := some b) (e6 := some c) (e7 := some d) (e8 := none) (o10 := o10) (o11 := o11) (o12 := o12) (o13 := o13) (o14 := o14) (o16 := none) (fun _ _ _ => rfl) (List.range 16) _ q2 4 none none (fun i hi => List.mem_range.mp hi) P5 ok2 (by simp) R5
  have hp5 : isDct (S3 ++ (rsto S3.length (rinf S3 a b c d) ++ X5))[2]? = true := by rw [P5.hp]; rfl
  have R6 := R5.kp k6 hp5
  obtain ⟨X7, r7, n7, e7, h7⟩ := comp3 (σ := [some (.loc 0), some (.loc 2), some (.loc r2), o3, some a, some b, some c, some d, none, some (.loc (S3.length + 2)), o10, o11, o12, o13, o14, o15, none]) (S := S6) (by simp)
  have kk : Kp 2 S3 (S6 ++ X7) := (Kp.app.trans k6).trans Kp.app
  have hp3 : isDct S3[2]? = true := by rw [P3.hp]; rfl
  have hr7 : (S6 ++ X7)[S3.length + 2]? = some (.lst (rds S3.length 0 (rinf S3 a b c d))) := get_left R6.hr
  have x5 : (S3 ++ (rsto S3.length (rinf S3 a b c d) ++ X5))[S3.length + 0]? = some (.ins "Stresses" [("rows", cpD S3 a)]) := lk (by rfl)
  have ne2 : S3.length + 0 ≠ 2 := fun z => by
    rw [z, P5.hp] at x5
    cases x5
  have x7 : (S6 ++ X7)[S3.length + 0]? = some (.ins "Stresses" [("rows", cpD S3 a)]) := get_left (k6.2 _ _ ne2 x5)
  have fv7 : Fv (S6 ++ X7) (cpD S3 a) pa := ha.1.fv.kp kk hp3
  obtain ⟨S8, e8⟩ := law_tail (p := 2) (σ := [some (.loc 0), some (.loc 2), some (.loc r2), o3, some a, some b, some c, some d, none, some (.loc (S3.length + 2)), o10, o11, o12, o13, o14, o15, none]) (a := a) (by simp) rfl rfl hr7 (by rfl) x7 fv7 (by
    rcases ha.2 with h | ⟨n, ws, en, h1, h2, h3⟩
    · exact .inl (h _)
    · have hn : n < S3.length := (List.getElem?_eq_some_iff.mp h1).1
      have hn2 : n ≠ 2 := fun z => by
        rw [z, P3.hp] at h1
        cases h1
      refine .inr ⟨n, ws, en, kk.2 _ _ hn2 h1, h2, by omega, by omega, fun o => ?_⟩
      have ec : cpD S3 a = .tup ws := by
        rw [en]
        unfold cpD
        rw [(bt_lst h1).2]
      rw [ec]
      exact (h3 o).kp (kk.set2 hn) (by rw [List.getElem?_set_ne hn2]; exact hp3))
  refine ⟨S8, ?_⟩
  unfold runC c_law
  simp only [show startD n_law.length [D.loc 0] = [some (.loc 0), none, none, none, none, none, none, none, none, none, none, none, none, none, none, none, none] from rfl, List.map_cons, List.map_nil]
  rw [exCs, exC]
  simp only [evE, evEs, List.getElem?_cons_zero, Res.bind_ok, s_call]
  rw [e0', Res.bind_ok, asT, if_pos (by simp)]
  simp only [Res.bind_ok, List.set_cons_succ, List.set_cons_zero]
  rw [exCs, exC, e2, Res.bind_ok, asT, if_pos (by simp)]
  simp only [Res.bind_ok, List.set_cons_succ, List.set_cons_zero]
  rw [exCs, exC, e3, Res.bind_ok, asT]
  rw [seq_at w1]
  simp only [asTs, asT, List.length_cons, List.length_nil, List.length_set, Nat.reduceAdd, Nat.reduceLT, if_true, Res.bind_ok, List.set_cons_succ, List.set_cons_zero]
  rw [exCs, exC]
  simp only [evE, evEs, List.getElem?_cons_zero, List.getElem?_cons_succ, Res.bind_ok, s_call]
  rw [e4, Res.bind_ok, asT, if_pos (by simp)]
  simp only [Res.bind_ok, List.set_cons_succ, List.set_cons_zero]
  rw [exCs, exC]
  have lo4 : PV.listOf (S3 ++ rsto S3.length (rinf S3 a b c d)) (.loc (S3.length + 2)) = some (rds S3.length 0 (rinf S3 a b c d)) := by
    have := (R4 []).hr
    rw [List.append_nil] at this
    exact (bt_lst this).2
  simp only [evI, evE, List.getElem?_cons_zero, List.getElem?_cons_succ, Res.bind_ok, lo4]
  unfold b1 at e5
  rw [e5]
  simp only [Res.bind_ok]
  rw [exCs, exC]
  have len5 : primD ML.cls ML.gc ML.rp .len [D.loc (S3.length + 2)] (S3 ++ rsto S3.length (rinf S3 a b c d) ++ X5) = .ok (.int (16 : Int)) (S3 ++ rsto S3.length (rinf S3 a b c d) ++ X5) := by
    have h := R5.hr
    rw [← List.append_assoc] at h
    rw [p_len (seq_at h), R5.hl]
    rfl
  simp only [evI, evE, evEs, List.getElem?_cons_zero, List.getElem?_cons_succ, Res.bind_ok, len5]
  rw [if_pos (by decide)]
  simp only [Res.bind_ok]
  rw [show rangeItems 0 (16 : Int).toNat = (List.range 16).map fun (i : Nat) => D.int (i : Int) from by decide +kernel]
  unfold b2 at e6
  rw [List.append_assoc, e6]
  simp only [Res.bind_ok]
  rw [exCs, exC, evE, evEs, e7, Res.bind_ok, evEs, Res.bind_ok, Res.bind_ok, any_false h7, Res.bind_ok]
  simp only [exCs, Res.bind_ok]
  simp only [exCs] at e8
  rw [e8]
end K90

namespace K90
open PySem PySem.Spec PyProof.Rows L2 PV
theorem run (w : World) : HandSHeadRun.RunEq R (PySem.W.view R.prog [31]) hk ob 8000 loose w := by
  intro os
  kernel_rfl
end K90
open PySem PySem.W PyProof.Rows in
theorem PySem.Challenge.cw_beampapers_k90_classes_made_by_hand_holds : PySem.Challenge.rw_beampapers_k90_classes_made_by_hand.Holds := by
  w_on; o_law
  refine HandSHeadRun.head_any (r := OpenLaw.row PySem.Challenge.rw_beampapers_k90_classes_made_by_hand)
    (q := view (OpenLaw.row PySem.Challenge.rw_beampapers_k90_classes_made_by_hand).prog [31]) (H := K90.hk) (ob := K90.ob) (M := 8000) (loose := K90.loose)
    (d := HandSHeadRun.topDef (OpenLaw.row PySem.Challenge.rw_beampapers_k90_classes_made_by_hand).prog 31) (kwd := []) K90.ob_eq
    (by kernel_rfl) (fun s => by kernel_rfl) K90.run (by kernel_rfl) (by kernel_rfl) (by kernel_rfl) (by rfl) (by first | assumption | decide +kernel) (by decide +kernel) ⟨rfl, rfl, rfl, rfl, rfl, by decide +kernel⟩ ?hw ?hc
  case hw => w_witness2
  case hc => exact K90.walk (by kernel_rfl) (by kernel_rfl) rfl (fun ns _ => K90.plain ns)
