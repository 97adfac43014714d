import PyProof.Rows.All
import Wide.All
import OpenK.AllK
import Wide.FinOn
import PyProof.EqAt
import PyProof.EqKinds
import PyProof.TupleCall
import HandS.ForMost
import HandS.ForExc
import HandS.TryMany
import HandS.IsInst
import HandS.Deep
import HandS.TupAny
import HandS.TupMul
import HandS.Wide
import HandS.Conv
import HandS.Zip
import HandS.CallSlots
import HandS.Walk
import HandS.Style
import KE.GoesMore
import HandS.NoneIn
import HandS.Small
import HandS.Codes
import HandS.Head0
import HandS.Head1
import HandS.Head2
import HandS.HeadEnd
import HandS.HeadHook1
import KE.KStateDown
import PySem.Challenge.RW_dualroads_k84_whole_papers_of_webs
set_option Elab.async false
set_option linter.all false
section
set_option maxRecDepth 100000
/-! DI1: values without the heap, the store of mutable lists, the evaluator of the small language. -/
namespace DI
open PySem

/-- a value: immutable data as trees; fl: a list that nobody changes any more; kl: a list that is only read (the script); lst: a list of the store -/
inductive D where
  | non | bl (b : Bool) | int (i : Int) | str (cs : List Nat)
  | tup (ds : List D) | fl (ds : List D) | kl (ds : List D)
  | lst (k : Nat) | dct (k : Nat) | fn (i : Nat)
  deriving Inhabited

mutual
def D.beq : D → D → Bool
  | .non, .non => true
  | .bl a, .bl b => a == b
  | .int a, .int b => a == b
  | .str a, .str b => a == b
  | .tup a, .tup b => D.beqs a b
  | .fl a, .fl b => D.beqs a b
  | .kl a, .kl b => D.beqs a b
  | .lst a, .lst b => a == b
  | .dct a, .dct b => a == b
  | .fn a, .fn b => a == b
  | _, _ => false
def D.beqs : List D → List D → Bool
  | [], [] => true
  | a :: as, b :: bs => D.beq a b && D.beqs as bs
  | _, _ => false
end
mutual
theorem D.eq_of_beq : ∀ {a b : D}, D.beq a b = true → a = b
  | .non, b, h => by cases b <;> simp [D.beq] at h <;> rfl
  | .bl x, b, h => by cases b <;> simp [D.beq] at h <;> simp [h]
  | .int x, b, h => by cases b <;> simp [D.beq] at h <;> simp [h]
  | .str x, b, h => by cases b <;> simp [D.beq] at h <;> simp [h]
  | .tup x, b, h => by cases b <;> simp [D.beq] at h; rw [D.eq_of_beqs h]
  | .fl x, b, h => by cases b <;> simp [D.beq] at h; rw [D.eq_of_beqs h]
  | .kl x, b, h => by cases b <;> simp [D.beq] at h; rw [D.eq_of_beqs h]
  | .lst x, b, h => by cases b <;> simp [D.beq] at h <;> simp [h]
  | .dct x, b, h => by cases b <;> simp [D.beq] at h <;> simp [h]
  | .fn x, b, h => by cases b <;> simp [D.beq] at h <;> simp [h]
theorem D.eq_of_beqs : ∀ {a b : List D}, D.beqs a b = true → a = b
  | [], [], _ => rfl
  | [], _ :: _, h => by simp [D.beqs] at h
  | _ :: _, [], h => by simp [D.beqs] at h
  | a :: as, b :: bs, h => by
    simp only [D.beqs, Bool.and_eq_true] at h
    rw [D.eq_of_beq h.1, D.eq_of_beqs h.2]
end
mutual
theorem D.beq_self : ∀ a : D, D.beq a a = true
  | .non => rfl
  | .bl x => by simp [D.beq]
  | .int x => by simp [D.beq]
  | .str x => by simp [D.beq]
  | .tup x => by simp [D.beq, D.beqs_self x]
  | .fl x => by simp [D.beq, D.beqs_self x]
  | .kl x => by simp [D.beq, D.beqs_self x]
  | .lst x => by simp [D.beq]
  | .dct x => by simp [D.beq]
  | .fn x => by simp [D.beq]
theorem D.beqs_self : ∀ a : List D, D.beqs a a = true
  | [] => rfl
  | a :: as => by simp [D.beqs, D.beq_self a, D.beqs_self as]
end
instance : DecidableEq D := fun a b => if h : D.beq a b = true then isTrue (D.eq_of_beq h) else isFalse fun e => h (by rw [e]; exact D.beq_self b)

/-- a cell of the store: a mutable list; a mutable dict -/
inductive Cell where
  | lst (ds : List D)
  | dK (kvs : List (L2.Key × D))
  | dT (kvs : List (List L2.Key × D))
  deriving DecidableEq, Inhabited
abbrev Store := List Cell

/-- what comes of an expression -/
inductive R (α : Type) where
  | ok (a : α) (S : Store)
  | ex (c : Nat) (pl : List (List Nat × D)) (S : Store)
  | no
def R.bind {α β : Type} (r : R α) (f : α → Store → R β) : R β := match r with
  | .ok a S => f a S
  | .ex c pl S => .ex c pl S
  | .no => .no
@[simp] theorem R.bind_ok {α β : Type} (a : α) (S : Store) (f : α → Store → R β) : (R.ok a S).bind f = f a S := rfl
@[simp] theorem R.bind_ex {α β : Type} (c : Nat) (pl : List (List Nat × D)) (S : Store) (f : α → Store → R β) : (R.ex c pl S : R α).bind f = .ex c pl S := rfl
@[simp] theorem R.bind_no {α β : Type} (f : α → Store → R β) : (R.no : R α).bind f = .no := rfl

def opt {α β : Type} (o : Option α) (f : α → R β) : R β := match o with
  | some a => f a
  | none => .no
@[simp] theorem opt_some {α β : Type} (a : α) (f : α → R β) : opt (some a) f = f a := rfl
@[simp] theorem opt_none {α β : Type} (f : α → R β) : opt none f = .no := rfl
/-- the slots of a frame -/
abbrev Sl := List (Option D)
/-- what comes of a statement -/
inductive F where
  | nx (s : Sl) (S : Store) | rt (d : D) (S : Store) | bk (s : Sl) (S : Store) | ct (s : Sl) (S : Store)
  | ex (c : Nat) (pl : List (List Nat × D)) (s : Sl) (S : Store) | no

def lim : Nat := 16777216

/-! ### data for == -/
mutual
def toPy : D → Option PyData
  | .non => some .none
  | .bl b => some (.bool b)
  | .int i => some (.int i)
  | .str cs => some (.str ⟨cs.toArray⟩)
  | .tup ds => (toPys ds).map .tuple
  | .fl ds => (toPys ds).map .list
  | .kl ds => (toPys ds).map .list
  | _ => none
def toPys : List D → Option (List PyData)
  | [] => some []
  | d :: ds => match toPy d, toPys ds with
    | some x, some xs => some (x :: xs)
    | _, _ => none
end

/-- the ints of a list of values -/
def ints? : List D → Option (List Int)
  | [] => some []
  | .int i :: r => (ints? r).map (i :: ·)
  | _ :: _ => none
def bls? : List D → Option (List Bool)
  | [] => some []
  | .bl i :: r => (bls? r).map (i :: ·)
  | _ :: _ => none
theorem ints?_map (l : List Int) : ints? (l.map .int) = some l := by
  induction l with
  | nil => rfl
  | cons a l ih => simp [ints?, ih]
theorem bls?_map (l : List Bool) : bls? (l.map .bl) = some l := by
  induction l with
  | nil => rfl
  | cons a l ih => simp [bls?, ih]

/-- the values in a cell -/
def cellV : Cell → List D
  | .lst ds => ds
  | .dK kvs => kvs.map (·.2)
  | .dT kvs => kvs.map (·.2)
/-- a mutable list of the store -/
def cellL (S : Store) (k : Nat) : Option (List D) := match S[k]? with
  | some (.lst ds) => some ds
  | _ => none
/-- the items of a list or a tuple -/
def itemsOf (S : Store) : D → Option (List D)
  | .tup ds => some ds
  | .fl ds => some ds
  | .kl ds => some ds
  | .lst k => cellL S k
  | _ => none
/-- the items of a list -/
def listOf (S : Store) : D → Option (List D)
  | .fl ds => some ds
  | .kl ds => some ds
  | .lst k => cellL S k
  | _ => none

/-- the items of a list that the program made -/
def listH (S : Store) : D → Option (List D)
  | .fl ds => some ds
  | .lst k => cellL S k
  | _ => none

def mk (t : Bool) (ds : List D) (S : Store) : R D := if ds.length ≤ lim then (if t then .ok (.lst S.length) (S ++ [.lst ds]) else .ok (.fl ds) S) else .no
def mkT (ds : List D) (S : Store) : R D := if ds.length ≤ lim then .ok (.tup ds) S else .no

def mulOk (i j : Int) : Bool := decide (i.natAbs < 2 ^ 64) || decide (j.natAbs < 2 ^ 64) || decide (i.natAbs.log2 + j.natAbs.log2 < 1000000)
def divOk (j : Int) : Bool := decide (j ≠ 0) && (decide (j.natAbs < 1073741824) || decide (j.natAbs.log2 < 9000))

/-- repetition of a tuple -/
def repT (ds : List D) (k : Int) (S : Store) : R D := if ds ≠ [] ∧ 2 ≤ k ∧ k ≤ 1000 ∧ ds.length ≤ 1000 then .ok (.tup (List.replicate k.toNat ds).flatten) S else .no

def bin (op : Operator) (a b : D) (S : Store) : R D := match op, a, b with
  | .Add, .int i, .int j => .ok (.int (i + j)) S
  | .Sub, .int i, .int j => .ok (.int (i - j)) S
  | .Mult, .int i, .int j => if mulOk i j then .ok (.int (i * j)) S else .no
  | .FloorDiv, .int i, .int j => if divOk j then .ok (.int (i.fdiv j)) S else .no
  | .Mod, .int i, .int j => if j ≠ 0 then .ok (.int (i.fmod j)) S else .no
  | .Add, .str x, .str y => if x.length + y.length ≤ lim then .ok (.str (x ++ y)) S else .no
  | .Add, .tup x, .tup y => if x.length + y.length ≤ lim then .ok (.tup (x ++ y)) S else .no
  | .Mult, .tup x, .int k => repT x k S
  | .Add, x, y => opt (listH S x) fun xs => opt (listH S y) fun ys => if xs.length + ys.length ≤ lim then .ok (.fl (xs ++ ys)) S else .no
  | .Mult, x, .int k => opt (listH S x) fun xs => if -(2 ^ 63) ≤ k ∧ k < 2 ^ 63 ∧ xs.length * k.toNat ≤ lim then .ok (.fl (List.replicate k.toNat xs).flatten) S else .no
  | _, _, _ => .no

/-- == of data -/
def eqD (a b : D) : Option Bool := match toPy a, toPy b with
  | some x, some y => if SeqAt.shaped x && SeqAt.shaped y then some (PyData.eqv x y) else none
  | _, _ => none
/-- flat values, == of them -/
def flatD : D → Bool
  | .non => true | .bl _ => true | .int _ => true | .str _ => true | _ => false
def eqF : D → D → Bool
  | .non, .non => true
  | .bl a, .bl b => a == b
  | .bl a, .int b => (if a then 1 else 0) == b
  | .int a, .bl b => a == (if b then 1 else 0)
  | .int a, .int b => a == b
  | .str a, .str b => a == b
  | _, _ => false

def cmp (op : CmpOp) (a b : D) (S : Store) : R D := match op, a, b with
  | .Lt, .int i, .int j => .ok (.bl (decide (i < j))) S
  | .LtE, .int i, .int j => .ok (.bl (decide (i ≤ j))) S
  | .Gt, .int i, .int j => .ok (.bl (decide (j < i))) S
  | .GtE, .int i, .int j => .ok (.bl (decide (j ≤ i))) S
  | .Lt, .tup x, .tup y => opt (ints? x) fun m => opt (ints? y) fun n => .ok (.bl (HT.lexLt m n)) S
  | .Eq, x, y => opt (eqD x y) fun c => .ok (.bl c) S
  | .NotEq, x, y => opt (eqD x y) fun c => .ok (.bl (!c)) S
  | .Is, x, .non => .ok (.bl (decide (x = .non))) S
  | .IsNot, x, .non => .ok (.bl (!decide (x = .non))) S
  | _, _, _ => .no

/-- the built-in types that isinstance is asked for -/
inductive Ty where
  | int | bool | str | tuple | list
  deriving DecidableEq
def isTy : D → Ty → Option Bool
  | .int _, .int => some true
  | .bl _, .int => some true
  | .bl _, .bool => some true
  | .str _, .str => some true
  | .tup _, .tuple => some true
  | .fl _, .list => some true
  | .kl _, .list => some true
  | .lst _, .list => some true
  | .dct _, _ => none
  | .fn _, _ => none
  | _, _ => some false
def isTys (d : D) : List Ty → Option Bool
  | [] => some false
  | t :: ts => match isTy d t with
    | some true => some true
    | some false => isTys d ts
    | none => none

/-- a list of the store that is there -/
def liveD (S : Store) (x : D) : D := match x with
  | .lst k => if (cellL S k).isSome then x else .fn 0
  | _ => x
/-- the built-in functions of one argument -/
inductive Bi where
  | abs | len | all | any | sum | int | list | tuple | lenset
  deriving DecidableEq
/-- the different ones of a list of ints, by their first places -/
def dedup : List Int → List Int → List Int
  | acc, [] => acc
  | acc, x :: xs => if acc.any (· == x) then dedup acc xs else dedup (acc ++ [x]) xs
def bi (b : Bi) (d : D) (S : Store) : R D := match b, d with
  | .abs, .int i => .ok (.int (if i < 0 then -i else i)) S
  | .int, .int i => .ok (.int i) S
  | .int, .bl c => .ok (.int (if c then 1 else 0)) S
  | .len, .str cs => if cs.length ≤ lim then .ok (.int cs.length) S else .no
  | .len, x => opt (itemsOf S x) fun ds => .ok (.int ds.length) S
  | .all, x => opt ((listOf S x).bind bls?) fun bs => .ok (.bl (bs.all id)) S
  | .any, x => opt ((listOf S x).bind bls?) fun bs => .ok (.bl (bs.any id)) S
  | .sum, x => opt ((itemsOf S x).bind ints?) fun ns => .ok (.int ns.sum) S
  | .tuple, .tup ds => .ok (.tup ds) S
  | .tuple, x => opt (listOf S x) fun ds => .ok (.tup ds) S
  | _, _ => .no

/-- a place of a sequence -/
def ixD (o i : D) (S : Store) : R D := match o, i with
  | .str cs, .int k => if cs.length ≤ lim then opt (L2.atI cs k) fun c => .ok (.str [c]) S else .no
  | x, .int k => opt (itemsOf S x) fun ds => opt (L2.atI ds k) fun d => .ok d S
  | _, _ => .no
def cutD (xs : List D) (lo hi : Option Int) : List D := (xs.drop (HT.sIx xs.length 0 lo)).take (HT.sIx xs.length xs.length hi - HT.sIx xs.length 0 lo)
def partD : Option D → Option (Option Int)
  | none => some none
  | some (.int i) => some (some i)
  | _ => none
def slD (o : D) (lo hi : Option Int) (S : Store) : R D := match o with
  | .tup ds => .ok (.tup (cutD ds lo hi)) S
  | x => opt (listOf S x) fun ds => .ok (.fl (cutD ds lo hi)) S
/-- x[::-1] -/
def revD (o : D) (S : Store) : R D := match o with
  | .tup ds => .ok (.tup ds.reverse) S
  | x => opt (listOf S x) fun ds => .ok (.fl ds.reverse) S
/-- o[i] = v -/
def setD (o i v : D) (S : Store) : R Unit := match o, i with
  | .lst k, .int j => opt (cellL S k) fun ds => opt (L2.ixN ds.length j) fun m => .ok () (S.set k (.lst (ds.set m v)))
  | _, _ => .no

/-! dicts: the values by their keys -/
section
variable {κ : Type} [DecidableEq κ]
def lookD (kvs : List (κ × D)) (k : κ) : Option D := (kvs.find? fun kv => decide (kv.1 = k)).map (·.2)
def storeD (kvs : List (κ × D)) (k : κ) (v : D) : List (κ × D) :=
  if (kvs.any fun kv => decide (kv.1 = k)) = true then kvs.map (fun kv => if kv.1 = k then (kv.1, v) else kv) else kvs ++ [(k, v)]
end
def keyOf : D → Option L2.Key
  | .int i => some (.inl i)
  | .str cs => some (.inr ⟨cs.toArray⟩)
  | _ => none
def keysOf : List D → Option (List L2.Key)
  | [] => some []
  | d :: ds => match keyOf d, keysOf ds with
    | some k, some ks => some (k :: ks)
    | _, _ => none
def cellK (S : Store) (k : Nat) : Option (List (L2.Key × D)) := match S[k]? with
  | some (.dK kvs) => some kvs
  | _ => none
def cellT (S : Store) (k : Nat) : Option (List (List L2.Key × D)) := match S[k]? with
  | some (.dT kvs) => some kvs
  | _ => none
/-- the key is in the dict -/
def inKD (ng : Bool) (x y : D) (S : Store) : R D := match y with
  | .dct k => opt (keyOf x) fun ky => opt (cellK S k) fun kvs => .ok (.bl (ng != (lookD kvs ky).isSome)) S
  | _ => .no
def inTD (ng : Bool) (x : List D) (y : D) (S : Store) : R D := match y with
  | .dct k => opt (keysOf x) fun ky => opt (cellT S k) fun kvs => .ok (.bl (ng != (lookD kvs ky).isSome)) S
  | _ => .no
def getKD (y x : D) (S : Store) : R D := match y with
  | .dct k => opt (keyOf x) fun ky => opt (cellK S k) fun kvs => opt (lookD kvs ky) fun v => .ok v S
  | _ => .no
def getTD (y : D) (x : List D) (S : Store) : R D := match y with
  | .dct k => opt (keysOf x) fun ky => opt (cellT S k) fun kvs => opt (lookD kvs ky) fun v => .ok v S
  | _ => .no
def putKD (y x v : D) (S : Store) : R Unit := match y with
  | .dct k => opt (keyOf x) fun ky => opt (cellK S k) fun kvs => if kvs.length < lim then .ok () (S.set k (.dK (storeD kvs ky v))) else .no
  | _ => .no
def putTD (y : D) (x : List D) (v : D) (S : Store) : R Unit := match y with
  | .dct k => opt (keysOf x) fun ky => opt (cellT S k) fun kvs => if kvs.length < lim then .ok () (S.set k (.dT (storeD kvs ky v))) else .no
  | _ => .no

/-- the methods -/
inductive Me where
  | append | pop0 | pop1 | extend | count
  deriving DecidableEq
def me (m : Me) (k : Nat) (vs : List D) (S : Store) : R D := match m, vs with
  | .append, [v] => opt (cellL S k) fun ds => if ds.length < lim then .ok .non (S.set k (.lst (ds ++ [v]))) else .no
  | .pop0, [] => opt (cellL S k) fun ds => opt ds[ds.length - 1]? fun v => .ok v (S.set k (.lst ds.dropLast))
  | .pop1, [.int i] => opt (cellL S k) fun ds => if -(2 ^ 63) ≤ i ∧ i < 2 ^ 63 then opt (L2.ixN ds.length i) fun j => opt ds[j]? fun v => .ok v (S.set k (.lst (ds.eraseIdx j))) else .no
  | _, _ => .no

/-! ### the language -/
inductive Tg where
  | nm (i : Nat)
  | tp (is : List Nat)
mutual
inductive E where
  | var (i : Nat)
  | con (d : D)
  | bin (op : Operator) (a b : E)
  | neg (a : E) | not (a : E)
  | cmp (op : CmpOp) (a b : E)
  | chn (op op' : CmpOp) (a b c : E)
  | isIn (neg : Bool) (a b : E)
  | and (es : List E) | or (es : List E)
  | ite (c a b : E)
  | call (f : Nat) (es : List E)
  | cllv (i : Nat) (es : List E)
  | bi (b : Bi) (a : E)
  | lset (a : E)
  | isi (a : E) (ts : List Ty)
  | me (m : Me) (o : E) (es : List E)
  | ix (a i : E)
  | sl (a : E) (lo hi : Option E)
  | rev (a : E)
  | tup (es : List E)
  | lst (t : Bool) (es : List E)
  | lof (t : Bool) (a : E)
  | newK | newT
  | inK (ng : Bool) (x y : E) | inT (ng : Bool) (x : List E) (y : E)
  | getK (y x : E) | getT (y : E) (x : List E)
  | cmph (t : Bool) (elt : E) (tg : Tg) (it : It) (ifs : List E) (own : List Nat)
  | cmph2 (t : Bool) (elt : E) (tg : Tg) (it : It) (ifs : List E) (tg1 : Tg) (it1 : It) (ifs1 : List E) (own own1 : List Nat)
inductive It where
  | seq (a : E)
  | rng1 (a : E) | rng2 (a b : E)
  | zip (a b : E)
  | enum (a : E)
end
inductive St where
  | asg (i : Nat) (e : E)
  | asgT (is : List Nat) (e : E)
  | asgS (o i e : E)
  | putK (o i e : E) | putT (o : E) (i : List E) (e : E)
  | par2 (i j : Nat) (a b : E)
  | par3 (i j k : Nat) (a b c : E)
  | aug (i : Nat) (op : Operator) (e : E)
  | ex (e : E)
  | ret (e : E) | retN
  | iff (c : E) (a b : List St)
  | for (tg : Tg) (it : It) (body : List St)
  | whl (c : E) (body : List St)
  | raise (c : Nat) (es : List E)
  | try1 (body : List St) (hs : List (Nat × D))
  | pass | brk | cnt

/-- what a loop walks -/
inductive Src where
  | imm (t : Bool) (ds : List D)
  | cell (k : Nat)
  | rng (lo : Int) (n : Nat)
  | zip (a b : Src)
  | enum (a : Src)
/-- the i-th item: it is stuck; it ends; an item -/
def Src.at (S : Store) : Src → Nat → Option (Option D)
  | .imm _ ds, i => some ds[i]?
  | .cell k, i => (cellL S k).map fun ds => ds[i]?
  | .rng lo n, i => some (if i < n then some (.int (lo + i)) else none)
  | .zip a b, i => match a.at S i, b.at S i with
    | some (some x), some (some y) => some (some (.tup [x, y]))
    | some none, some _ => some none
    | some _, some none => some none
    | _, _ => none
  | .enum a, i => match a.at S i with
    | some (some x) => some (some (.tup [.int i, x]))
    | some none => some none
    | none => none
def Src.len (S : Store) : Src → Nat
  | .imm _ ds => ds.length
  | .cell k => ((cellL S k).map List.length).getD 0
  | .rng _ n => n
  | .zip a b => min (a.len S) (b.len S)
  | .enum a => a.len S
/-- a value that is walked -/
def srcOf (S : Store) : D → Option Src
  | .tup ds => some (.imm true ds)
  | .fl ds => some (.imm false ds)
  | .kl ds => some (.imm false ds)
  | .lst k => (cellL S k).map fun _ => .cell k
  | _ => none
/-- a tuple is walked -/
def Src.isT : Src → Bool
  | .imm t _ => t
  | _ => false

def setSl : List Nat → List D → Sl → Option Sl
  | [], [], s => some s
  | i :: is, d :: ds, s => setSl is ds (s.set i (some d))
  | _, _, _ => none
def setTg (tg : Tg) (d : D) (s : Sl) : Option Sl := match tg with
  | .nm i => some (s.set i (some d))
  | .tp is => match d with
    | .tup ds => setSl is ds s
    | _ => none
def wipeD (s : Sl) : List Nat → Sl
  | [] => s
  | v :: vs => (wipeD s vs).set v none

/-- a comprehension's turns: n turns are left at most, the i-th one is next; f: what a turn does with the list; no exception leaves -/
def compG (src : Src) (tg : Tg) (ts : Sl → Store → R Bool) (f : Sl → List D → Store → R (List D)) (s : Sl) : Nat → Nat → List D → Store → R (List D)
  | 0, i, acc, S => match src.at S i with
    | some none => .ok acc S
    | _ => .no
  | n + 1, i, acc, S => match src.at S i with
    | none => .no
    | some none => .ok acc S
    | some (some d) => match setTg tg d s with
      | none => .no
      | some s1 => match ts s1 S with
        | .ok true S1 => (match f s1 acc S1 with
          | .ok acc2 S2 => compG src tg ts f s n (i + 1) acc2 S2
          | _ => .no)
        | .ok false S1 => compG src tg ts f s n (i + 1) acc S1
        | _ => .no
/-- one item more -/
def putD (acc : List D) (r : R D) : R (List D) := match r with
  | .ok y S => if acc.length < lim then .ok (acc ++ [y]) S else .no
  | _ => .no
def forL (src : Src) (tg : Tg) (body : Sl → Store → F) : Nat → Nat → Sl → Store → F
  | 0, i, s, S => match src.at S i with
    | some none => .nx s S
    | _ => .no
  | n + 1, i, s, S => match src.at S i with
    | none => .no
    | some none => .nx s S
    | some (some d) => match setTg tg d s with
      | none => .no
      | some s1 => match body s1 S with
        | .nx s2 S2 => forL src tg body n (i + 1) s2 S2
        | .ct s2 S2 => forL src tg body n (i + 1) s2 S2
        | .bk s2 S2 => .nx s2 S2
        | r => r
def whlL (c : Sl → Store → R Bool) (body : Sl → Store → F) : Nat → Sl → Store → F
  | 0, _, _ => .no
  | n + 1, s, S => match c s S with
    | .ok true S1 => (match body s S1 with
      | .nx s2 S2 => whlL c body n s2 S2
      | .ct s2 S2 => whlL c body n s2 S2
      | .bk s2 S2 => .nx s2 S2
      | r => r)
    | .ok false S1 => .nx s S1
    | .ex e pl S1 => .ex e pl s S1
    | .no => .no

def isBl (d : D) (S : Store) : R Bool := match d with
  | .bl b => .ok b S
  | _ => .no

section
variable (cf : Nat → List D → Store → R D) (n : Nat)
mutual
def evalE : E → Sl → Store → R D
  | .var i, s, S => match s[i]? with
    | some (some d) => .ok d S
    | _ => .no
  | .con d, _, S => .ok d S
  | .bin op a b, s, S => (evalE a s S).bind fun x S1 => (evalE b s S1).bind fun y S2 => bin op x y S2
  | .neg a, s, S => (evalE a s S).bind fun x S1 => match x with
    | .int i => .ok (.int (-i)) S1
    | _ => .no
  | .not a, s, S => (evalE a s S).bind fun x S1 => match x with
    | .bl b => .ok (.bl (!b)) S1
    | _ => .no
  | .cmp op a b, s, S => (evalE a s S).bind fun x S1 => (evalE b s S1).bind fun y S2 => cmp op x y S2
  | .chn op op' a b c, s, S => (evalE a s S).bind fun x S1 => (evalE b s S1).bind fun y S2 => (cmp op x y S2).bind fun t S3 => match t with
    | .bl true => (evalE c s S3).bind fun z S4 => cmp op' y z S4
    | .bl false => .ok (.bl false) S3
    | _ => .no
  | .isIn ng a b, s, S => (evalE a s S).bind fun x S1 => (evalE b s S1).bind fun y S2 => opt (itemsOf S2 y) fun ds => if flatD x && ds.all flatD then .ok (.bl (if ng then !ds.any (eqF · x) else ds.any (eqF · x))) S2 else .no
  | .and es, s, S => evalAnd es s S
  | .or es, s, S => evalOr es s S
  | .ite c a b, s, S => (evalE c s S).bind fun x S1 => match x with
    | .bl true => evalE a s S1
    | .bl false => evalE b s S1
    | _ => .no
  | .call f es, s, S => (evalEs es s S).bind fun vs S1 => cf f vs S1
  | .cllv i es, s, S => match s[i]? with
    | some (some (.fn f)) => (evalEs es s S).bind fun vs S1 => cf f vs S1
    | _ => .no
  | .bi b a, s, S => (evalE a s S).bind fun x S1 => bi b x S1
  | .lset a, s, S => (evalE a s S).bind fun x S1 => opt ((listOf S1 x).bind ints?) fun ns => if ns.length ≤ 4000 then .ok (.int (dedup [] ns).length) S1 else .no
  | .isi a ts, s, S => (evalE a s S).bind fun x S1 => opt (isTys (liveD S1 x) ts) fun b => .ok (.bl b) S1
  | .me m o es, s, S => (evalE o s S).bind fun x S1 => match x with
    | .lst k => if (cellL S1 k).isSome then (evalEs es s S1).bind fun vs S2 => me m k vs S2 else .no
    | _ => .no
  | .ix a i, s, S => (evalE a s S).bind fun x S1 => (evalE i s S1).bind fun y S2 => ixD x y S2
  | .sl a lo hi, s, S => (evalE a s S).bind fun x S1 => (evalO lo s S1).bind fun l S2 => (evalO hi s S2).bind fun h S3 => slD x l h S3
  | .rev a, s, S => (evalE a s S).bind fun x S1 => revD x S1
  | .tup es, s, S => (evalEs es s S).bind fun vs S1 => mkT vs S1
  | .lst t es, s, S => (evalEs es s S).bind fun vs S1 => mk t vs S1
  | .lof t a, s, S => (evalE a s S).bind fun x S1 => opt (itemsOf S1 x) fun ds => mk t ds S1
  | .newK, _, S => .ok (.dct S.length) (S ++ [.dK []])
  | .newT, _, S => .ok (.dct S.length) (S ++ [.dT []])
  | .inK ng a b, s, S => (evalE a s S).bind fun x S1 => (evalE b s S1).bind fun y S2 => inKD ng x y S2
  | .inT ng a b, s, S => (evalEs a s S).bind fun x S1 => if x.length ≤ lim then (evalE b s S1).bind fun y S2 => inTD ng x y S2 else .no
  | .getK a b, s, S => (evalE a s S).bind fun x S1 => (evalE b s S1).bind fun y S2 => getKD x y S2
  | .getT a b, s, S => (evalE a s S).bind fun x S1 => (evalEs b s S1).bind fun y S2 => if y.length ≤ lim then getTD x y S2 else .no
  | .cmph t elt tg it ifs own, s, S => (evalIt it s S).bind fun src S1 =>
      (compG src tg (fun s2 S2 => evalIfs ifs s2 S2) (fun s2 acc S2 => putD acc (evalE elt s2 S2)) (wipeD s own) (src.len S1) 0 [] S1).bind fun ds S2 => mk t ds S2
  | .cmph2 t elt tg it ifs tg1 it1 ifs1 own own1, s, S => (evalIt it s S).bind fun src S1 =>
      (compG src tg (fun s2 S2 => evalIfs ifs s2 S2) (fun s2 acc S2 => (evalIt it1 s2 S2).bind fun src1 S3 =>
        compG src1 tg1 (fun s4 S4 => evalIfs ifs1 s4 S4) (fun s4 acc4 S4 => putD acc4 (evalE elt s4 S4)) (wipeD s2 own1) (src1.len S3) 0 acc S3) (wipeD s own) (src.len S1) 0 [] S1).bind fun ds S2 => mk t ds S2
def evalEs : List E → Sl → Store → R (List D)
  | [], _, S => .ok [] S
  | e :: es, s, S => (evalE e s S).bind fun x S1 => (evalEs es s S1).bind fun xs S2 => .ok (x :: xs) S2
def evalO : Option E → Sl → Store → R (Option Int)
  | none, _, S => .ok none S
  | some e, s, S => (evalE e s S).bind fun x S1 => match x with
    | .int i => .ok (some i) S1
    | _ => .no
def evalAnd : List E → Sl → Store → R D
  | [], _, _ => .no
  | [e], s, S => evalE e s S
  | e :: e2 :: es, s, S => (evalE e s S).bind fun x S1 => match x with
    | .bl true => evalAnd (e2 :: es) s S1
    | .bl false => .ok (.bl false) S1
    | _ => .no
def evalOr : List E → Sl → Store → R D
  | [], _, _ => .no
  | [e], s, S => evalE e s S
  | e :: e2 :: es, s, S => (evalE e s S).bind fun x S1 => match x with
    | .bl false => evalOr (e2 :: es) s S1
    | .bl true => .ok (.bl true) S1
    | _ => .no
def evalIfs : List E → Sl → Store → R Bool
  | [], _, S => .ok true S
  | [e], s, S => (evalE e s S).bind fun x S1 => isBl x S1
  | _, _, _ => .no
def evalIt : It → Sl → Store → R Src
  | .seq a, s, S => (evalE a s S).bind fun x S1 => opt (srcOf S1 x) fun r => .ok r S1
  | .rng1 a, s, S => (evalE a s S).bind fun x S1 => match x with
    | .int j => if -(2 ^ 62) ≤ j ∧ j < 2 ^ 62 then .ok (.rng 0 j.toNat) S1 else .no
    | _ => .no
  | .rng2 a b, s, S => (evalE a s S).bind fun x S1 => (evalE b s S1).bind fun y S2 => match x, y with
    | .int i, .int j => if -(2 ^ 62) ≤ i ∧ i < 2 ^ 62 ∧ -(2 ^ 62) ≤ j ∧ j < 2 ^ 62 then .ok (.rng i (j - i).toNat) S2 else .no
    | _, _ => .no
  | .zip a b, s, S => (evalE a s S).bind fun x S1 => (evalE b s S1).bind fun y S2 => opt (srcOf S2 x) fun r => opt (srcOf S2 y) fun q => if r.isT = q.isT then .ok (.zip r q) S2 else .no
  | .enum a, s, S => (evalE a s S).bind fun x S1 => opt (srcOf S1 x) fun r => .ok (.enum r) S1
end

def bindF {α : Type} (r : R α) (s : Sl) (f : α → Store → F) : F := match r with
  | .ok a S => f a S
  | .ex c pl S => .ex c pl s S
  | .no => .no
/-- what a clause of a try answers with: a constant tuple -/
def tryF (r : F) (hs : List (Nat × D)) : F := match r with
  | .ex c pl s S => (match hs.lookup c with
    | some h => .rt h S
    | none => .ex c pl s S)
  | r => r
mutual
def exec : St → Sl → Store → F
  | .asg i e, s, S => bindF (evalE cf e s S) s fun d S1 => .nx (s.set i (some d)) S1
  | .asgT is e, s, S => bindF (evalE cf e s S) s fun d S1 => match itemsOf S1 d with
    | some ds => (match setSl is ds s with
      | some s1 => .nx s1 S1
      | none => .no)
    | none => .no
  | .asgS o i e, s, S => bindF (evalE cf e s S) s fun d S1 => bindF (evalE cf o s S1) s fun x S2 => bindF (evalE cf i s S2) s fun y S3 => bindF (setD x y d S3) s fun _ S4 => .nx s S4
  | .putK o i e, s, S => bindF (evalE cf e s S) s fun d S1 => bindF (evalE cf o s S1) s fun x S2 => bindF (evalE cf i s S2) s fun y S3 => bindF (putKD x y d S3) s fun _ S4 => .nx s S4
  | .putT o i e, s, S => bindF (evalE cf e s S) s fun d S1 => bindF (evalE cf o s S1) s fun x S2 => bindF (evalEs cf i s S2) s fun y S3 => if y.length ≤ lim then bindF (putTD x y d S3) s fun _ S4 => .nx s S4 else .no
  | .par2 i j a b, s, S => bindF (evalE cf a s S) s fun x S1 => bindF (evalE cf b s S1) s fun y S2 => .nx ((s.set i (some x)).set j (some y)) S2
  | .par3 i j k a b c, s, S => bindF (evalE cf a s S) s fun x S1 => bindF (evalE cf b s S1) s fun y S2 => bindF (evalE cf c s S2) s fun z S3 => .nx (((s.set i (some x)).set j (some y)).set k (some z)) S3
  | .aug i op e, s, S => match s[i]? with
    | some (some (.int x)) => bindF (evalE cf e s S) s fun d S1 => match d with
      | .int y => bindF (bin op (.int x) (.int y) S1) s fun z S2 => .nx (s.set i (some z)) S2
      | _ => .no
    | _ => .no
  | .ex e, s, S => bindF (evalE cf e s S) s fun _ S1 => .nx s S1
  | .ret e, s, S => bindF (evalE cf e s S) s fun d S1 => .rt d S1
  | .retN, _, S => .rt .non S
  | .iff c a b, s, S => bindF (evalE cf c s S) s fun d S1 => match d with
    | .bl true => execs a s S1
    | .bl false => execs b s S1
    | _ => .no
  | .for tg it body, s, S => bindF (evalIt cf it s S) s fun src S1 => forL src tg (fun s2 S2 => execs body s2 S2) (src.len S1) 0 s S1
  | .whl c body, s, S => whlL (fun s2 S2 => (evalE cf c s2 S2).bind isBl) (fun s2 S2 => execs body s2 S2) n s S
  | .raise c es, s, S => bindF (evalEs cf es s S) s fun _ S1 => .ex c [] s S1
  | .try1 body hs, s, S => tryF (execs body s S) hs
  | .pass, s, S => .nx s S
  | .brk, s, S => .bk s S
  | .cnt, s, S => .ct s S
def execs : List St → Sl → Store → F
  | [], s, S => .nx s S
  | st :: r, s, S => match exec st s S with
    | .nx s1 S1 => execs r s1 S1
    | f => f
end
end

/-! ### calls -/
mutual
/-- no list of the store from n on is in it -/
def noRef (n : Nat) : D → Bool
  | .tup ds => noRefs n ds
  | .fl ds => noRefs n ds
  | .kl ds => noRefs n ds
  | .lst k => decide (k < n)
  | .dct k => decide (k < n)
  | _ => true
def noRefs (n : Nat) : List D → Bool
  | [] => true
  | d :: ds => noRef n d && noRefs n ds
end
/-- the lists of the store from n on are not changed any more -/
def frz (n : Nat) (S : Store) : Nat → D → Option D
  | 0, d => if noRef n d then some d else none
  | m + 1, d => if noRef n d then some d else match d with
    | .tup ds => (ds.mapM (frz n S m)).map .tup
    | .fl ds => (ds.mapM (frz n S m)).map .fl
    | .lst k => match S[k]? with
      | some (.lst ds) => (ds.mapM (frz n S m)).map .fl
      | _ => none
    | _ => none
/-- a cell without lists of the store -/
def flatC (n : Nat) (c : Cell) : Bool := noRefs n (cellV c)
def okStore (S0 S : Store) : Bool := decide (S0.length ≤ S.length) && (List.range S0.length).all fun k => decide (S[k]? = S0[k]?) || (S[k]?).all (flatC S0.length)
def cut (S0 : Store) (keep : Bool) (d : D) (S : Store) : R D := if keep then .ok d S else if okStore S0 S then match frz S0.length S 5 d with
    | some d' => .ok d' (S.take S0.length)
    | none => .no
  else .no
def fin (S0 : Store) (keep : Bool) : F → R D
  | .nx _ S => cut S0 keep .non S
  | .rt d S => cut S0 keep d S
  | .ex c pl _ S => if okStore S0 S && pl.all fun p => noRef S0.length p.2 then .ex c pl (S.take S0.length) else .no
  | _ => .no

/-- a def: its parameters, its slots, its body; keep: it hands back a list that is changed -/
structure Fn where
  ps : Nat
  ns : Nat
  keep : Bool
  body : List St
def callF (P : List Fn) (n : Nat) : Nat → Nat → List D → Store → R D
  | 0, _, _, _ => .no
  | d + 1, i, vs, S => match P[i]? with
    | some f => if vs.length = f.ps then fin S f.keep (execs (callF P n d) n f.body (vs.map some ++ List.replicate (f.ns - vs.length) none) S) else .no
    | none => .no
end DI
end
section
set_option maxRecDepth 100000
set_option maxHeartbeats 1000000
/-! DI2: what a value, a store, a frame of the small language is in the heap; what is wanted behind an evaluation. -/
namespace DI
open PySem PySem.Spec PyProof.Rows L2

/-- a list that is only read -/
def RoL (K : PySem.W.Frag) (pr ph : List Addr) (H : Hp) (a : Addr) (vs : List V) : Prop :=
  (a ∉ ph ∧ a ∉ pr ∧ Rd H a (.lst vs)) ∨
    ∃ (o : Obj) (its : Array Value) (n : Nat), K.lookup a = some o ∧ o.cls = .type "list" ∧ o.dict = none ∧ o.data = .seq its n ∧ its.size ≤ sizeLine ∧ Vals vs its.toList
theorem RoL.sq {K : PySem.W.Frag} {pr ph : List Addr} {H : Hp} {a : Addr} {vs : List V} (h : RoL K pr ph H a vs) : SqL K H a vs := h.elim (fun h => .inl h.2.2) .inr

mutual
inductive RD (K : PySem.W.Frag) (fa pr ph : List Addr) (H : Hp) : D → V → Prop
  | non : RD K fa pr ph H .non .non
  | bl (b : Bool) : RD K fa pr ph H (.bl b) (.bl b)
  | int (i : Int) : RD K fa pr ph H (.int i) (.int i)
  | str (cs : List Nat) : RD K fa pr ph H (.str cs) (.str ⟨cs.toArray⟩)
  | tup {ds : List D} {a : Addr} {vs : List V} : SqT K H a vs → RDs K fa pr ph H ds vs → RD K fa pr ph H (.tup ds) (.ref a)
  | fl {ds : List D} {a : Addr} {vs : List V} : a ∉ ph → a ∉ pr → H a = some (.lst vs) → RDs K fa pr ph H ds vs → RD K fa pr ph H (.fl ds) (.ref a)
  | kl {ds : List D} {a : Addr} {vs : List V} : RoL K pr ph H a vs → RDs K fa pr ph H ds vs → RD K fa pr ph H (.kl ds) (.ref a)
  | lst {k : Nat} {a : Addr} : ph[k]? = some a → RD K fa pr ph H (.lst k) (.ref a)
  | dct {k : Nat} {a : Addr} : ph[k]? = some a → RD K fa pr ph H (.dct k) (.ref a)
  | fn {i : Nat} {a : Addr} : fa[i]? = some a → RD K fa pr ph H (.fn i) (.ref a)
inductive RDs (K : PySem.W.Frag) (fa pr ph : List Addr) (H : Hp) : List D → List V → Prop
  | nil : RDs K fa pr ph H [] []
  | cons {d : D} {v : V} {ds : List D} {vs : List V} : RD K fa pr ph H d v → RDs K fa pr ph H ds vs → RDs K fa pr ph H (d :: ds) (v :: vs)
end

/-- the shape of a cell -/
def Shape : Cell → HO → Prop
  | .lst _, .lst _ => True
  | .dK kvs, .dK ws => kvs.map (·.1) = ws.map (·.1)
  | .dT kvs, .dT ws => kvs.map (·.1) = ws.map (·.1)
  | _, _ => False
def hoV : HO → List V
  | .lst vs => vs
  | .dK ws => ws.map (·.2)
  | .dT ws => ws.map (·.2)
  | _ => []
def CellOk (K : PySem.W.Frag) (fa pr ph : List Addr) (H : Hp) (c : Cell) (a : Addr) : Prop := ∃ u, H a = some u ∧ Shape c u ∧ RDs K fa pr ph H (cellV c) (hoV u)
structure SOk (K : PySem.W.Frag) (fa pr ph : List Addr) (S : Store) (H : Hp) : Prop where
  len : ph.length = S.length
  nd : ph.Nodup
  cell : ∀ (k : Nat) (c : Cell) (a : Addr), S[k]? = some c → ph[k]? = some a → CellOk K fa pr ph H c a
  prs : ∀ a, a ∈ pr → a ∉ ph ∧ ∃ vs, H a = some (.lst vs)
structure Nxt (ph : List Addr) (H : Hp) (ph' : List Addr) (H' : Hp) : Prop where
  app : ∃ ps, ph' = ph ++ ps
  new : ∀ a, a ∈ ph' → a ∉ ph → H a = none
  ext : ∀ a o, H a = some o → a ∉ ph → H' a = some o
structure RSl (K : PySem.W.Frag) (fa pr ph : List Addr) (H : Hp) (s : Sl) (σ : L2.St) : Prop where
  len : s.length = σ.length
  at_ : ∀ (i : Nat) (d : D), s[i]? = some (some d) → ∃ v, σ[i]? = some (some v) ∧ RD K fa pr ph H d v

section
variable {K : PySem.W.Frag} {fa pr ph ph' ph'' : List Addr} {H H' H'' : Hp} {S : Store} {d : D} {v : V} {ds es : List D} {vs ws : List V}

theorem Nxt.refl : Nxt ph H ph H := ⟨⟨[], by simp⟩, fun _ h n => absurd h n, fun _ _ h _ => h⟩
theorem Nxt.trans (a : Nxt ph H ph' H') (b : Nxt ph' H' ph'' H'') : Nxt ph H ph'' H'' := by
  obtain ⟨p, hp⟩ := a.app
  obtain ⟨q, hq⟩ := b.app
  refine ⟨⟨p ++ q, by rw [hq, hp, List.append_assoc]⟩, fun x hx hn => ?_, fun x o e hn => ?_⟩
  · by_cases h : x ∈ ph'
    · exact a.new x h hn
    · have := b.new x hx h
      cases e : H x with
      | none => rfl
      | some o => rw [a.ext x o e hn] at this; cases this
  · have e' := a.ext x o e hn
    refine b.ext x o e' fun h => ?_
    rw [a.new x h hn] at e; cases e
/-- a new object that is no cell -/
theorem Nxt.laid {p : Addr} {o : HO} (hp : H p = none) : Nxt ph H ph (upd H p o) := ⟨⟨[], by simp⟩, fun _ h n => absurd h n, fun a u e _ => by
  rw [upd_ne (ne_of_none e hp)]; exact e⟩
/-- a new cell -/
theorem Nxt.cell {p : Addr} {o : HO} (hp : H p = none) : Nxt ph H (ph ++ [p]) (upd H p o) := ⟨⟨[p], rfl⟩, fun x h n => by
  rcases List.mem_append.mp h with h | h
  · exact absurd h n
  · rw [List.mem_singleton.mp h]; exact hp, fun a u e _ => by
  rw [upd_ne (ne_of_none e hp)]; exact e⟩
/-- a cell is changed -/
theorem Nxt.write {p : Addr} {o : HO} (hp : p ∈ ph) : Nxt ph H ph (upd H p o) := ⟨⟨[], by simp⟩, fun _ h n => absurd h n, fun a u e n => by
  rw [upd_ne (fun z => n (by rw [z]; exact hp))]; exact e⟩
theorem Nxt.get (n : Nxt ph H ph' H') {k : Nat} {a : Addr} (h : ph[k]? = some a) : ph'[k]? = some a := by
  obtain ⟨p, hp⟩ := n.app
  rw [hp, List.getElem?_append_left (List.getElem?_eq_some_iff.mp h).1]; exact h

theorem SOk.get (o : SOk K fa pr ph S H) {a : Addr} (h : a ∈ ph) : ∃ u, H a = some u ∧ ∃ c, Shape c u := by
  obtain ⟨k, hk⟩ := List.getElem?_of_mem h
  have hl := (List.getElem?_eq_some_iff.mp hk).1
  rw [o.len] at hl
  obtain ⟨u, h1, h2, _⟩ := o.cell k _ a (List.getElem?_eq_getElem hl) hk
  exact ⟨u, h1, _, h2⟩
theorem SOk.lst (o : SOk K fa pr ph S H) {k : Nat} {ds : List D} {a : Addr} (h1 : S[k]? = some (.lst ds)) (h2 : ph[k]? = some a) : ∃ vs, H a = some (.lst vs) ∧ RDs K fa pr ph H ds vs := by
  obtain ⟨u, e, sh, w⟩ := o.cell k _ a h1 h2
  cases u with
  | lst vs => exact ⟨vs, e, w⟩
  | _ => exact sh.elim
theorem Nxt.tup (n : Nxt ph H ph' H') (o : SOk K fa pr ph S H) {a : Addr} (h : SqT K H a vs) : SqT K H' a vs := by
  have key : ∀ u, H a = some u → (∀ c, ¬ Shape c u) → H' a = some u := fun u e ne => n.ext a u e fun hm => by
    obtain ⟨u', e', c, sh⟩ := o.get hm
    rw [e] at e'; cases e'; exact ne c sh
  rcases h with (h | ⟨ob, h⟩) | h
  · exact .inl (.inl (key _ h fun c z => by cases c <;> exact z))
  · exact .inl (.inr ⟨ob, key _ h fun c z => by cases c <;> exact z⟩)
  · exact .inr h
theorem Nxt.nin (n : Nxt ph H ph' H') {a : Addr} {u : HO} (hn : a ∉ ph) (h : H a = some u) : a ∉ ph' := fun hm => by
  rw [n.new a hm hn] at h; cases h
theorem Nxt.rol (n : Nxt ph H ph' H') {a : Addr} (h : RoL K pr ph H a vs) : RoL K pr ph' H' a vs := by
  rcases h with ⟨hn, hp, h | ⟨ob, h⟩⟩ | h
  · exact .inl ⟨n.nin hn h, hp, .inl (n.ext _ _ h hn)⟩
  · exact .inl ⟨n.nin hn h, hp, .inr ⟨ob, n.ext _ _ h hn⟩⟩
  · exact .inr h
mutual
theorem RD.next (n : Nxt ph H ph' H') (o : SOk K fa pr ph S H) : ∀ {d : D} {v : V}, RD K fa pr ph H d v → RD K fa pr ph' H' d v
  | _, _, .non => .non
  | _, _, .bl b => .bl b
  | _, _, .int i => .int i
  | _, _, .str cs => .str cs
  | _, _, .tup h r => .tup (n.tup o h) (RDs.next n o r)
  | _, _, .fl hn hp h r => .fl (n.nin hn h) hp (n.ext _ _ h hn) (RDs.next n o r)
  | _, _, .kl h r => .kl (n.rol h) (RDs.next n o r)
  | _, _, .lst h => .lst (n.get h)
  | _, _, .dct h => .dct (n.get h)
  | _, _, .fn h => .fn h
theorem RDs.next (n : Nxt ph H ph' H') (o : SOk K fa pr ph S H) : ∀ {ds : List D} {vs : List V}, RDs K fa pr ph H ds vs → RDs K fa pr ph' H' ds vs
  | _, _, .nil => .nil
  | _, _, .cons h r => .cons (RD.next n o h) (RDs.next n o r)
end
theorem RSl.next {s : Sl} {σ : L2.St} (n : Nxt ph H ph' H') (o : SOk K fa pr ph S H) (r : RSl K fa pr ph H s σ) : RSl K fa pr ph' H' s σ := ⟨r.len, fun i d h =>
  let ⟨v, h1, h2⟩ := r.at_ i d h
  ⟨v, h1, h2.next n o⟩⟩

/-! ### lists of values -/
theorem RDs.length : ∀ {ds : List D} {vs : List V}, RDs K fa pr ph H ds vs → ds.length = vs.length
  | _, _, .nil => rfl
  | _, _, .cons _ r => by rw [List.length_cons, List.length_cons, RDs.length r]
theorem RDs.append : ∀ {ds es : List D} {vs ws : List V}, RDs K fa pr ph H ds vs → RDs K fa pr ph H es ws → RDs K fa pr ph H (ds ++ es) (vs ++ ws)
  | _, _, _, _, .nil, s => s
  | _, _, _, _, .cons h r, s => .cons h (RDs.append r s)
theorem RDs.get : ∀ {ds : List D} {vs : List V} {i : Nat} {d : D}, RDs K fa pr ph H ds vs → ds[i]? = some d → ∃ v, vs[i]? = some v ∧ RD K fa pr ph H d v
  | _, _, _, _, .nil, e => by simp at e
  | _, _, 0, _, .cons h _, e => by simp at e; subst e; exact ⟨_, rfl, h⟩
  | _, _, i + 1, d, .cons _ r, e => by
    obtain ⟨v, h1, h2⟩ := RDs.get (i := i) (d := d) r (by simpa using e)
    exact ⟨v, by simpa using h1, h2⟩
theorem RDs.get' : ∀ {ds : List D} {vs : List V} {i : Nat} {v : V}, RDs K fa pr ph H ds vs → vs[i]? = some v → ∃ d, ds[i]? = some d ∧ RD K fa pr ph H d v
  | _, _, _, _, .nil, e => by simp at e
  | _, _, 0, _, .cons h _, e => by simp at e; subst e; exact ⟨_, rfl, h⟩
  | _, _, i + 1, d, .cons _ r, e => by
    obtain ⟨v, h1, h2⟩ := RDs.get' (i := i) (v := d) r (by simpa using e)
    exact ⟨v, by simpa using h1, h2⟩
theorem RDs.set {x : D} {y : V} (h : RD K fa pr ph H x y) : ∀ {ds : List D} {vs : List V} (i : Nat), RDs K fa pr ph H ds vs → RDs K fa pr ph H (ds.set i x) (vs.set i y)
  | _, _, _, .nil => .nil
  | _, _, 0, .cons _ r => .cons h r
  | _, _, i + 1, .cons q r => .cons q (RDs.set h i r)
theorem RDs.take : ∀ {ds : List D} {vs : List V} (n : Nat), RDs K fa pr ph H ds vs → RDs K fa pr ph H (ds.take n) (vs.take n)
  | _, _, 0, _ => .nil
  | _, _, _ + 1, .nil => .nil
  | _, _, n + 1, .cons q r => .cons q (RDs.take n r)
theorem RDs.drop : ∀ {ds : List D} {vs : List V} (n : Nat), RDs K fa pr ph H ds vs → RDs K fa pr ph H (ds.drop n) (vs.drop n)
  | _, _, 0, r => r
  | _, _, _ + 1, .nil => .nil
  | _, _, n + 1, .cons _ r => RDs.drop n r
theorem RDs.eraseIdx : ∀ {ds : List D} {vs : List V} (i : Nat), RDs K fa pr ph H ds vs → RDs K fa pr ph H (ds.eraseIdx i) (vs.eraseIdx i)
  | _, _, _, .nil => .nil
  | _, _, 0, .cons _ r => r
  | _, _, i + 1, .cons q r => .cons q (RDs.eraseIdx i r)
theorem RDs.reverse {ds : List D} {vs : List V} (h : RDs K fa pr ph H ds vs) : RDs K fa pr ph H ds.reverse vs.reverse := by
  induction ds generalizing vs with
  | nil => cases h; exact .nil
  | cons d ds ih =>
    cases h with
    | cons q r => rw [List.reverse_cons, List.reverse_cons]; exact (ih r).append (.cons q .nil)
theorem RDs.dropLast {ds : List D} {vs : List V} (h : RDs K fa pr ph H ds vs) : RDs K fa pr ph H ds.dropLast vs.dropLast := by
  rw [List.dropLast_eq_take, List.dropLast_eq_take, h.length]; exact h.take _
theorem RDs.rep (h : RDs K fa pr ph H ds vs) : ∀ k : Nat, RDs K fa pr ph H (List.replicate k ds).flatten (List.replicate k vs).flatten
  | 0 => .nil
  | k + 1 => by rw [List.replicate_succ, List.replicate_succ, List.flatten_cons, List.flatten_cons]; exact h.append (RDs.rep h k)
theorem RDs.ints : ∀ {l : List Int} {vs : List V}, RDs K fa pr ph H (l.map .int) vs → vs = l.map V.int
  | [], _, h => by cases h; rfl
  | i :: l, _, h => by
    cases h with
    | cons q r => cases q; rw [List.map_cons, RDs.ints r]
theorem ints?_eq : ∀ {ds : List D} {l : List Int}, ints? ds = some l → ds = l.map .int
  | [], l, h => by simp [ints?] at h; subst h; rfl
  | d :: ds, l, h => by
    cases d <;> simp only [ints?] at h
    case int i =>
      cases e : ints? ds with
      | none => rw [e] at h; cases h
      | some l' => rw [e] at h; simp at h; subst h; rw [ints?_eq e]; rfl
    all_goals cases h
theorem bls?_eq : ∀ {ds : List D} {l : List Bool}, bls? ds = some l → ds = l.map .bl
  | [], l, h => by simp [bls?] at h; subst h; rfl
  | d :: ds, l, h => by
    cases d <;> simp only [bls?] at h
    case bl i =>
      cases e : bls? ds with
      | none => rw [e] at h; cases h
      | some l' => rw [e] at h; simp at h; subst h; rw [bls?_eq e]; rfl
    all_goals cases h
theorem RDs.bls : ∀ {l : List Bool} {vs : List V}, RDs K fa pr ph H (l.map .bl) vs → vs = l.map V.bl
  | [], _, h => by cases h; rfl
  | i :: l, _, h => by
    cases h with
    | cons q r => cases q; rw [List.map_cons, RDs.bls r]
theorem RDs.cut {lo hi : Option Int} (h : RDs K fa pr ph H ds vs) : RDs K fa pr ph H (cutD ds lo hi) (cutV vs lo hi) := by
  unfold cutD cutV
  rw [h.length]
  exact (h.drop _).take _

/-! data for == -/
mutual
theorem RD.dp (o : SOk K fa pr ph S H) : ∀ {d : D} {v : V} {p : PyData}, RD K fa pr ph H d v → toPy d = some p → Dp K H v p
  | _, _, p, .non, h => by simp [toPy] at h; subst h; exact .non
  | _, _, p, .bl b, h => by simp [toPy] at h; subst h; exact .bl b
  | _, _, p, .int b, h => by simp [toPy] at h; subst h; exact .int b
  | _, _, p, .str b, h => by simp [toPy] at h; subst h; exact .str _
  | _, _, p, .tup (ds := ds) q r, h => by
    simp only [toPy] at h
    cases e : toPys ds with
    | none => rw [e] at h; cases h
    | some xs => rw [e] at h; simp at h; subst h; exact .tup q (RDs.dp o r e)
  | _, _, p, .fl (ds := ds) hn hp q r, h => by
    simp only [toPy] at h
    cases e : toPys ds with
    | none => rw [e] at h; cases h
    | some xs => rw [e] at h; simp at h; subst h; exact .lst (.inl (.inl q)) (RDs.dp o r e)
  | _, _, p, .kl (ds := ds) q r, h => by
    simp only [toPy] at h
    cases e : toPys ds with
    | none => rw [e] at h; cases h
    | some xs => rw [e] at h; simp at h; subst h; exact .lst q.sq (RDs.dp o r e)
  | _, _, p, .lst _, h => by simp [toPy] at h
  | _, _, p, .dct _, h => by simp [toPy] at h
  | _, _, p, .fn _, h => by simp [toPy] at h
theorem RDs.dp (o : SOk K fa pr ph S H) : ∀ {ds : List D} {vs : List V} {ps : List PyData}, RDs K fa pr ph H ds vs → toPys ds = some ps → DpAll K H vs ps
  | _, _, ps, .nil, h => by simp [toPys] at h; subst h; exact .nil
  | _, _, ps, .cons (d := d) (ds := ds) q r, h => by
    simp only [toPys] at h
    cases e1 : toPy d with
    | none => rw [e1] at h; cases h
    | some x =>
      cases e2 : toPys ds with
      | none => rw [e1, e2] at h; cases h
      | some xs => rw [e1, e2] at h; simp at h; subst h; exact .cons (RD.dp o q e1) (RDs.dp o r e2)
end

theorem cellL_eq {S : Store} {k : Nat} {ds : List D} (h : cellL S k = some ds) : S[k]? = some (.lst ds) := by
  unfold cellL at h
  split at h
  · cases h; assumption
  · cases h
/-- a list in the heap -/
theorem RD.list (o : SOk K fa pr ph S H) (r : RD K fa pr ph H d v) (h : listOf S d = some ds) : ∃ a vs, v = .ref a ∧ SqL K H a vs ∧ RDs K fa pr ph H ds vs := by
  cases r with
  | fl hn hp q r => simp [listOf] at h; subst h; exact ⟨_, _, rfl, .inl (.inl q), r⟩
  | kl q r => simp [listOf] at h; subst h; exact ⟨_, _, rfl, q.sq, r⟩
  | @lst k a q =>
    obtain ⟨vs, h1, h2⟩ := o.lst (cellL_eq (by simpa [listOf] using h)) q
    exact ⟨a, vs, rfl, .inl (.inl h1), h2⟩
  | _ => simp [listOf] at h
theorem RD.listH (o : SOk K fa pr ph S H) (r : RD K fa pr ph H d v) (h : listH S d = some ds) : ∃ a vs, v = .ref a ∧ H a = some (.lst vs) ∧ RDs K fa pr ph H ds vs := by
  cases r with
  | fl hn hp q r => simp [DI.listH] at h; subst h; exact ⟨_, _, rfl, q, r⟩
  | @lst k a q =>
    obtain ⟨vs, h1, h2⟩ := o.lst (cellL_eq (by simpa [DI.listH] using h)) q
    exact ⟨a, vs, rfl, h1, h2⟩
  | _ => simp [DI.listH] at h
/-- a list or a tuple in the heap -/
theorem RD.items (o : SOk K fa pr ph S H) (r : RD K fa pr ph H d v) (h : itemsOf S d = some ds) : ∃ a vs, v = .ref a ∧ (SqL K H a vs ∨ SqT K H a vs) ∧ RDs K fa pr ph H ds vs := by
  by_cases hl : listOf S d = some ds
  · obtain ⟨a, vs, h1, h2, h3⟩ := r.list o hl
    exact ⟨a, vs, h1, .inl h2, h3⟩
  · cases r with
    | tup q r => simp [itemsOf] at h; subst h; exact ⟨_, _, rfl, .inr q, r⟩
    | fl hn hp q r => simp [itemsOf] at h; subst h; exact absurd rfl hl
    | kl q r => simp [itemsOf] at h; subst h; exact absurd rfl hl
    | @lst k a q => exact absurd (by simpa [listOf, itemsOf] using h) hl
    | _ => simp [itemsOf] at h
end

/-! ### what is wanted behind -/
/-- what is the same through a whole law -/
structure Glb where
  P : Program
  w : World
  K : PySem.W.Frag
  mg : Str → Option Value
  base : Heap
  fa : List Addr
  cls : List Addr
  pr : List Addr
/-- an exception in the heap -/
def RX (G : Glb) (c : Nat) (pl : List (List Nat × D)) (cv : Value) (dd : Option Addr) : Prop := ∃ C, G.cls[c]? = some C ∧ cv = .ref C ∧ pl = [] ∧ dd = none

/-- an exception that is not raised -/
abbrev W0 : WX := fun _ _ _ _ => False
section
variable (G : Glb)
abbrev Glb.RD (ph : List Addr) (H : Hp) (d : D) (v : V) : Prop := DI.RD G.K G.fa G.pr ph H d v
abbrev Glb.RDs (ph : List Addr) (H : Hp) (d : List D) (v : List V) : Prop := DI.RDs G.K G.fa G.pr ph H d v
abbrev Glb.SOk (ph : List Addr) (S : Store) (H : Hp) : Prop := DI.SOk G.K G.fa G.pr ph S H
abbrev Glb.RSl (ph : List Addr) (H : Hp) (s : Sl) (σ : L2.St) : Prop := DI.RSl G.K G.fa G.pr ph H s σ
def Post {α β : Type} (ph : List Addr) (H : Hp) (σ : L2.St) (W : WX) (Rel : List Addr → Hp → α → β → Prop) (r : R α) (Q : β → Hp → Prop) : Prop := match r with
  | .ok a S => ∀ ph' H' b, Nxt ph H ph' H' → G.SOk ph' S H' → Rel ph' H' a b → Q b H'
  | .ex c pl S => ∀ ph' H' cv dd, Nxt ph H ph' H' → G.SOk ph' S H' → RX G c pl cv dd → W cv dd σ H'
  | .no => False
def PostF (ph : List Addr) (H : Hp) (W : WX) (r : F) (D : Ends) : Prop := match r with
  | .nx s S => ∀ ph' H' σ', Nxt ph H ph' H' → G.SOk ph' S H' → G.RSl ph' H' s σ' → D.nx σ' H'
  | .bk s S => ∀ ph' H' σ', Nxt ph H ph' H' → G.SOk ph' S H' → G.RSl ph' H' s σ' → D.bk σ' H'
  | .ct s S => ∀ ph' H' σ', Nxt ph H ph' H' → G.SOk ph' S H' → G.RSl ph' H' s σ' → D.ct σ' H'
  | .rt d S => ∀ ph' H' v, Nxt ph H ph' H' → G.SOk ph' S H' → G.RD ph' H' d v → D.rt v H'
  | .ex c pl s S => ∀ ph' H' σ' cv dd, Nxt ph H ph' H' → G.SOk ph' S H' → G.RSl ph' H' s σ' → RX G c pl cv dd → W cv dd σ' H'
  | .no => False
end
section
variable {G : Glb} {ph ph' : List Addr} {H H' : Hp} {σ : L2.St} {W : WX} {α β γ δ : Type} {Ra : List Addr → Hp → α → β → Prop} {Rg : List Addr → Hp → γ → δ → Prop}
theorem Post.from {r : R α} {Q : β → Hp → Prop} (h : Post G ph H σ W Ra r Q) (n : Nxt ph H ph' H') : Post G ph' H' σ W Ra r Q := by
  cases r with
  | ok a S => exact fun p2 H2 b n2 o r => h p2 H2 b (n.trans n2) o r
  | ex c pl S => exact fun p2 H2 cv dd n2 o r => h p2 H2 cv dd (n.trans n2) o r
  | no => exact h
/-- one behind the other -/
theorem Post.seq {r : R α} {f : α → Store → R γ} {Q : δ → Hp → Prop} (h : Post G ph H σ W Rg (r.bind f) Q) :
    Post G ph H σ W Ra r fun b H1 => ∃ ph1 S1 a, Nxt ph H ph1 H1 ∧ G.SOk ph1 S1 H1 ∧ Ra ph1 H1 a b ∧ r = .ok a S1 ∧ Post G ph1 H1 σ W Rg (f a S1) Q := by
  cases r with
  | ok a S => exact fun p2 H2 b n2 o r => ⟨p2, S, a, n2, o, r, rfl, Post.from (by exact h) n2⟩
  | ex c pl S => exact h
  | no => exact h
theorem Post.opt {o : Option γ} {f : γ → R α} {Q : β → Hp → Prop} (h : Post G ph H σ W Ra (DI.opt o f) Q) : ∃ c, o = some c ∧ Post G ph H σ W Ra (f c) Q := by
  cases o with
  | some c => exact ⟨c, rfl, h⟩
  | none => exact h.elim
theorem Post.ok {a : α} {b : β} {S : Store} {Q : β → Hp → Prop} (h : Post G ph H σ W Ra (.ok a S) Q) (o : G.SOk ph S H) (r : Ra ph H a b) : Q b H := h ph H b .refl o r
/-- one new object -/
theorem Post.ok' {a : α} {b : β} {S : Store} {Q : β → Hp → Prop} (h : Post G ph H σ W Ra (.ok a S) Q) (n : Nxt ph H ph' H') (o : G.SOk ph' S H') (r : Ra ph' H' a b) : Q b H' := h ph' H' b n o r
theorem Post.imp {r : R α} {Q Q' : β → Hp → Prop} (h : Post G ph H σ W Ra r Q) (hq : ∀ b H, Q b H → Q' b H) : Post G ph H σ W Ra r Q' := by
  cases r with
  | ok a S => exact fun p2 H2 b n2 o r => hq _ _ (h p2 H2 b n2 o r)
  | ex c pl S => exact h
  | no => exact h
theorem PostF.from {r : F} {D : Ends} (h : PostF G ph H W r D) (n : Nxt ph H ph' H') : PostF G ph' H' W r D := by
  cases r with
  | nx s S => exact fun p2 H2 s2 n2 o r => h p2 H2 s2 (n.trans n2) o r
  | bk s S => exact fun p2 H2 s2 n2 o r => h p2 H2 s2 (n.trans n2) o r
  | ct s S => exact fun p2 H2 s2 n2 o r => h p2 H2 s2 (n.trans n2) o r
  | rt d S => exact fun p2 H2 s2 n2 o r => h p2 H2 s2 (n.trans n2) o r
  | ex c pl s S => exact fun p2 H2 s2 cv dd n2 o r => h p2 H2 s2 cv dd (n.trans n2) o r
  | no => exact h
/-- an expression, then a statement's rest -/
theorem PostF.seq {r : R α} {s : Sl} {f : α → Store → F} {D : Ends} (hs : ∀ {ph1 H1}, Nxt ph H ph1 H1 → G.RSl ph1 H1 s σ) (h : PostF G ph H W (bindF r s f) D) :
    Post G ph H σ W Ra r fun b H1 => ∃ ph1 S1 a, Nxt ph H ph1 H1 ∧ G.SOk ph1 S1 H1 ∧ Ra ph1 H1 a b ∧ r = .ok a S1 ∧ PostF G ph1 H1 W (f a S1) D := by
  cases r with
  | ok a S => exact fun p2 H2 b n2 o r => ⟨p2, S, a, n2, o, r, rfl, PostF.from (by exact h) n2⟩
  | ex c pl S => exact fun p2 H2 cv dd n2 o r => h p2 H2 σ cv dd n2 o (hs n2) r
  | no => exact h
end
end DI
end
section
set_option maxRecDepth 100000
set_option maxHeartbeats 1000000
/-! DI3: the operations on values. -/
namespace DI
open PySem PySem.Spec PyProof.Rows L2

/-- an operation on two values, as the small language has it -/
def rO (G : Glb) (f : D → D → Store → R D) : R2 := fun x y H Q => ∃ ph S da db σ W, G.SOk ph S H ∧ G.RD ph H da x ∧ G.RD ph H db y ∧ Post G ph H σ W G.RD (f da db S) Q
def rU1 (G : Glb) (f : D → Store → R D) : V → Hp → VK → Prop := fun x H Q => ∃ ph S da σ W, G.SOk ph S H ∧ G.RD ph H da x ∧ Post G ph H σ W G.RD (f da S) Q

theorem limEq : lim = sizeLine := by rw [sizeLine_eq]; rfl

section
variable {K : PySem.W.Frag} {fa pr ph : List Addr} {H : Hp} {S : Store}
/-- a new object beside the store -/
theorem SOk.laid (o : SOk K fa pr ph S H) {p : Addr} {u : HO} (hp : H p = none) : SOk K fa pr ph S (upd H p u) := by
  refine ⟨o.len, o.nd, fun k c a h1 h2 => ?_, fun a ha => ⟨(o.prs a ha).1, let ⟨vs, e⟩ := (o.prs a ha).2; ⟨vs, by rw [upd_ne (ne_of_none e hp)]; exact e⟩⟩⟩
  obtain ⟨u', q, sh, r⟩ := o.cell k c a h1 h2
  exact ⟨u', by rw [upd_ne (ne_of_none q hp)]; exact q, sh, r.next (Nxt.laid hp) o⟩
/-- a new cell -/
theorem SOk.pushC (o : SOk K fa pr ph S H) {p : Addr} {c0 : Cell} {u : HO} (hp : H p = none) (sh : Shape c0 u) (r : RDs K fa pr ph H (cellV c0) (hoV u)) : SOk K fa pr (ph ++ [p]) (S ++ [c0]) (upd H p u) := by
  have n : Nxt ph H (ph ++ [p]) (upd H p u) := Nxt.cell hp
  have hpn : p ∉ ph := fun hm => by
    obtain ⟨xs, e, _⟩ := o.get hm
    rw [hp] at e; cases e
  refine ⟨by simp [o.len], List.nodup_append.mpr ⟨o.nd, by simp, fun a ha b hb => ?_⟩, fun k c a h1 h2 => ?_, fun a ha => ?_⟩
  · rw [List.mem_singleton.mp hb]; exact fun e => hpn (e ▸ ha)
  · by_cases hk : k < S.length
    · rw [List.getElem?_append_left hk] at h1
      rw [List.getElem?_append_left (by rw [o.len]; exact hk)] at h2
      obtain ⟨ws, q, sh, r⟩ := o.cell k c a h1 h2
      exact ⟨ws, by rw [upd_ne (ne_of_none q hp)]; exact q, sh, r.next n o⟩
    · have hk' : k = S.length := by
        have := (List.getElem?_eq_some_iff.mp h1).1
        simp at this; omega
      subst hk'
      rw [List.getElem?_append_right (Nat.le_refl _)] at h1
      rw [List.getElem?_append_right (Nat.le_of_eq o.len)] at h2
      simp [o.len] at h1 h2
      subst h1 h2
      exact ⟨u, upd_same, sh, r.next n o⟩
  · obtain ⟨n1, vs', e⟩ := o.prs a ha
    have hne := ne_of_none e hp
    refine ⟨fun hm => ?_, vs', by rw [upd_ne hne]; exact e⟩
    rcases List.mem_append.mp hm with hm | hm
    · exact n1 hm
    · exact hne (List.mem_singleton.mp hm)
theorem SOk.push (o : SOk K fa pr ph S H) {p : Addr} {ds : List D} {vs : List V} (hp : H p = none) (r : RDs K fa pr ph H ds vs) : SOk K fa pr (ph ++ [p]) (S ++ [.lst ds]) (upd H p (.lst vs)) := o.pushC hp True.intro r
/-- a cell is changed -/
theorem SOk.writeC (o : SOk K fa pr ph S H) {p : Addr} {k : Nat} {c0 : Cell} {u : HO} (hk : ph[k]? = some p) (sh : Shape c0 u) (r : RDs K fa pr ph H (cellV c0) (hoV u)) : SOk K fa pr ph (S.set k c0) (upd H p u) := by
  have hm : p ∈ ph := List.mem_of_getElem? hk
  have n : Nxt ph H ph (upd H p u) := Nxt.write hm
  refine ⟨by simp [o.len], o.nd, fun j c a h1 h2 => ?_, fun a ha => ⟨(o.prs a ha).1, let ⟨vs, e⟩ := (o.prs a ha).2; ⟨vs, by rw [upd_ne (fun z => (o.prs a ha).1 (by rw [z]; exact hm))]; exact e⟩⟩⟩
  by_cases hj : j = k
  · subst hj
    have hl : j < S.length := by rw [← o.len]; exact (List.getElem?_eq_some_iff.mp hk).1
    rw [List.getElem?_set_self hl] at h1
    rw [hk] at h2
    cases h1; cases h2
    exact ⟨u, upd_same, sh, r.next n o⟩
  · rw [List.getElem?_set_ne (Ne.symm hj)] at h1
    have hne : a ≠ p := fun e => hj (by
      subst e
      obtain ⟨l1, e1⟩ := List.getElem?_eq_some_iff.mp h2
      obtain ⟨l2, e2⟩ := List.getElem?_eq_some_iff.mp hk
      exact (List.getElem_inj o.nd).mp (e1.trans e2.symm))
    obtain ⟨ws, q, sh', r⟩ := o.cell j c a h1 h2
    exact ⟨ws, by rw [upd_ne hne]; exact q, sh', r.next n o⟩
theorem SOk.write (o : SOk K fa pr ph S H) {p : Addr} {k : Nat} {ds : List D} {vs : List V} (hk : ph[k]? = some p) (r : RDs K fa pr ph H ds vs) : SOk K fa pr ph (S.set k (.lst ds)) (upd H p (.lst vs)) := o.writeC hk True.intro r
end

section
variable {G : Glb} {ph : List Addr} {H : Hp} {S : Store} {σ : L2.St} {W : WX} {Q : VK} {d : D} {ds : List D} {vs : List V}
/-- the ends: a value that is no new object -/
theorem Post.val {v : V} (h : Post G ph H σ W G.RD (.ok d S) Q) (o : G.SOk ph S H) (r : G.RD ph H d v) : Q v H := h.ok o r
/-- a new tuple -/
theorem Post.tup (h : Post G ph H σ W G.RD (.ok (.tup ds) S) Q) (o : G.SOk ph S H) (r : G.RDs ph H ds vs) : ∀ p, H p = none → Q (.ref p) (upd H p (.tup vs)) := fun p hp =>
  h.ok' (Nxt.laid hp) (o.laid hp) (.tup (.inl (.inl upd_same)) (RDs.next (Nxt.laid hp) o r))
/-- a new list -/
theorem Post.fl (h : Post G ph H σ W G.RD (.ok (.fl ds) S) Q) (o : G.SOk ph S H) (r : G.RDs ph H ds vs) : ∀ p, H p = none → Q (.ref p) (upd H p (.lst vs)) := fun p hp =>
  h.ok' (Nxt.laid hp) (o.laid hp) (.fl (fun hm => by obtain ⟨xs, e, _⟩ := o.get hm; rw [hp] at e; cases e) (fun hm => by obtain ⟨_, xs, e⟩ := o.prs _ hm; rw [hp] at e; cases e) upd_same (RDs.next (Nxt.laid hp) o r))
theorem Post.lst (h : Post G ph H σ W G.RD (.ok (.lst S.length) (S ++ [.lst ds])) Q) (o : G.SOk ph S H) (r : G.RDs ph H ds vs) : ∀ p, H p = none → Q (.ref p) (upd H p (.lst vs)) := fun p hp =>
  h.ok' (Nxt.cell hp) (o.push hp r) (.lst (by rw [← o.len]; simp))
theorem Post.mk {t : Bool} (h : Post G ph H σ W G.RD (mk t ds S) Q) (o : G.SOk ph S H) (r : G.RDs ph H ds vs) : vs.length ≤ sizeLine ∧ ∀ p, H p = none → Q (.ref p) (upd H p (.lst vs)) := by
  unfold DI.mk at h
  by_cases hz : ds.length ≤ lim
  · rw [if_pos hz] at h
    refine ⟨by rw [← limEq, ← r.length]; exact hz, ?_⟩
    cases t with
    | true => exact h.lst o r
    | false => exact h.fl o r
  · rw [if_neg hz] at h; exact h.elim
theorem Post.mkT (h : Post G ph H σ W G.RD (mkT ds S) Q) (o : G.SOk ph S H) (r : G.RDs ph H ds vs) : vs.length ≤ sizeLine ∧ ∀ p, H p = none → Q (.ref p) (upd H p (.tup vs)) := by
  unfold DI.mkT at h
  by_cases hz : ds.length ≤ lim
  · rw [if_pos hz] at h
    exact ⟨by rw [← limEq, ← r.length]; exact hz, h.tup o r⟩
  · rw [if_neg hz] at h; exact h.elim
end

/-! ### operators -/
section
variable {X : Cx}
theorem mulOk_ok {i j : Int} (h : mulOk i j = true) : IntMulOk i j := by
  unfold mulOk at h
  simp only [Bool.or_eq_true, decide_eq_true_eq] at h
  rcases h with (h | h) | h
  · exact .of_left (intBits_le_64 (by omega) (by omega))
  · exact .of_right (intBits_le_64 (by omega) (by omega))
  · exact CMulW.ok h
theorem op_mulA : OpR X (binaryOp .Mult) (rI (fun i j => mulOk i j = true) fun i j => .int (i * j)) := opI fun _ _ _ _ _ _ _ hc q => mul_int q (mulOk_ok hc)
theorem iop_mulA : OpR X (inplaceOp .Mult) (rI (fun i j => mulOk i j = true) fun i j => .int (i * j)) := opI fun _ _ _ _ _ _ _ hc q => imul_int q (mulOk_ok hc)
theorem divOk_ne {j : Int} (h : divOk j = true) : j ≠ 0 := by
  unfold divOk at h
  simp only [Bool.or_eq_true, Bool.and_eq_true, decide_eq_true_eq] at h
  exact h.1
theorem divOk_ok {i j : Int} (h : divOk j = true) : Builtin.divisionGoesByPylong i j = false := by
  unfold divOk at h
  simp only [Bool.or_eq_true, Bool.and_eq_true, decide_eq_true_eq] at h
  exact h.2.elim PyProof.noPylong_small PyProof.noPylong_of_log2
theorem op_fdivA : OpR X (binaryOp .FloorDiv) (rI (fun _ j => divOk j = true) fun i j => .int (i.fdiv j)) := opI fun _ _ _ _ _ _ _ hc q => floordiv_int (divOk_ne hc) q (.inl (divOk_ok hc))
theorem iop_fdivA : OpR X (inplaceOp .FloorDiv) (rI (fun _ j => divOk j = true) fun i j => .int (i.fdiv j)) := opI fun _ _ _ _ _ _ _ hc q => ifloordiv_int (divOk_ne hc) q (.inl (divOk_ok hc))
theorem iop_modN : OpR X (inplaceOp .Mod) (rI (fun _ j => j ≠ 0) fun i j => .int (i.fmod j)) := opI fun _ _ _ _ _ _ _ hc q => imod_int hc q
end

section
variable {G : Glb} {X : Cx}
theorem str_len (cs : List Nat) : (Str.length ⟨cs.toArray⟩) = cs.length := by simp [Str.length]
theorem str_app (x y : List Nat) : (⟨x.toArray⟩ : Str) ++ (⟨y.toArray⟩ : Str) = ⟨(x ++ y).toArray⟩ := by
  show Str.append _ _ = _
  simp [Str.append]
theorem opR_bin (hK : X.K = G.K) (op : Operator) : OpR X (binaryOp op) (rO G (bin op)) := by
  intro pins s σ H x y v u Q I rx ry h
  obtain ⟨ph, S, da, db, σ', W, o, r1, r2, h⟩ := h
  unfold bin at h
  split at h
  · cases r1; cases r2; exact op_add pins s σ H _ _ v u Q I rx ry ⟨_, _, rfl, rfl, h.val o (.int _)⟩
  · cases r1; cases r2; exact op_sub pins s σ H _ _ v u Q I rx ry ⟨_, _, rfl, rfl, h.val o (.int _)⟩
  · cases r1; cases r2
    split at h
    · exact op_mulA pins s σ H _ _ v u Q I rx ry ⟨_, _, rfl, rfl, by assumption, h.val o (.int _)⟩
    · exact h.elim
  · cases r1; cases r2
    split at h
    · exact op_fdivA pins s σ H _ _ v u Q I rx ry ⟨_, _, rfl, rfl, by assumption, h.val o (.int _)⟩
    · exact h.elim
  · cases r1; cases r2
    split at h
    · exact op_modN pins s σ H _ _ v u Q I rx ry ⟨_, _, rfl, rfl, by assumption, h.val o (.int _)⟩
    · exact h.elim
  · cases r1; cases r2
    split at h
    · rename_i hz
      exact op_add_str pins s σ H _ _ v u Q I rx ry ⟨_, _, rfl, rfl, by rw [str_len, str_len, ← limEq]; exact hz, by rw [str_app]; exact h.val o (.str _)⟩
    · exact h.elim
  · cases r1 with
    | tup q1 w1 =>
      cases r2 with
      | tup q2 w2 =>
        split at h
        · rename_i xs ys hz
          refine op_catA pins s σ H _ _ v u Q I rx ry ⟨_, _, _, _, rfl, rfl, by rw [hK]; exact q1, by rw [hK]; exact q2, by rw [← w1.length, ← w2.length, ← limEq]; exact hz, fun e => ?_, fun e1 e2 => ?_, fun _ _ => h.tup o (w1.append w2)⟩
          · subst e
            cases w1
            exact h.val o (.tup q2 (by simpa using w2))
          · subst e2
            cases w2
            exact h.val o (.tup q1 (by simpa using w1))
        · exact h.elim
  · cases r1 with
    | tup q1 w1 =>
      cases r2
      unfold repT at h
      split at h
      · rename_i hz
        obtain ⟨z1, z2, z3, z4⟩ := hz
        refine op_repT pins s σ H _ _ v u Q I rx ry ⟨_, _, _, rfl, rfl, by rw [hK]; exact q1, fun e => z1 ?_, z2, z3, by rw [← w1.length]; exact z4, h.tup o (w1.rep _)⟩
        have := w1.length
        rw [e] at this
        exact List.eq_nil_of_length_eq_zero this
      · exact h.elim
  · obtain ⟨xs, e1, h⟩ := h.opt
    obtain ⟨ys, e2, h⟩ := h.opt
    obtain ⟨a, vs, rfl, q1, w1⟩ := r1.listH o e1
    obtain ⟨b, ws, rfl, q2, w2⟩ := r2.listH o e2
    split at h
    · rename_i hz
      exact op_cat pins s σ H _ _ v u Q I rx ry ⟨_, _, _, _, rfl, rfl, q1, q2, by rw [← w1.length, ← w2.length, ← limEq]; exact hz, h.fl o (w1.append w2)⟩
    · exact h.elim
  · obtain ⟨xs, e1, h⟩ := h.opt
    obtain ⟨a, vs, rfl, q1, w1⟩ := r1.listH o e1
    cases r2
    split at h
    · rename_i hz
      obtain ⟨z1, z2, z3⟩ := hz
      exact op_rep pins s σ H _ _ v u Q I rx ry ⟨_, _, _, rfl, rfl, q1, z1, z2, by rw [← w1.length, ← limEq]; exact z3, h.fl o (w1.rep _)⟩
    · exact h.elim
  · exact h.elim

theorem eqD_eq {a b : D} {c : Bool} (hc : eqD a b = some c) : ∃ p q, toPy a = some p ∧ toPy b = some q ∧ SeqAt.shaped p = true ∧ SeqAt.shaped q = true ∧ c = PyData.eqv p q := by
  unfold eqD at hc
  split at hc
  · rename_i p q e1 e2
    split at hc
    · rename_i hs
      rw [Bool.and_eq_true] at hs
      cases hc
      exact ⟨p, q, e1, e2, hs.1, hs.2, rfl⟩
    · cases hc
  · cases hc
theorem opR_cmp (hK : X.K = G.K) (hu : X.A.units + 64 < cLine) (op : CmpOp) : OpR X (compareOp op) (rO G (cmp op)) := by
  intro pins s σ H x y v u Q I rx ry h
  obtain ⟨ph, S, da, db, σ', W, o, r1, r2, h⟩ := h
  unfold cmp at h
  split at h
  · cases r1; cases r2; exact op_lt pins s σ H _ _ v u Q I rx ry ⟨_, _, rfl, rfl, h.val o (.bl _)⟩
  · cases r1; cases r2; exact op_le pins s σ H _ _ v u Q I rx ry ⟨_, _, rfl, rfl, h.val o (.bl _)⟩
  · cases r1; cases r2; exact op_gt pins s σ H _ _ v u Q I rx ry ⟨_, _, rfl, rfl, h.val o (.bl _)⟩
  · cases r1; cases r2; exact op_ge pins s σ H _ _ v u Q I rx ry ⟨_, _, rfl, rfl, h.val o (.bl _)⟩
  · cases r1 with
    | tup q1 w1 =>
      cases r2 with
      | tup q2 w2 =>
        obtain ⟨xs, e1, h1⟩ := h.opt
        obtain ⟨ys, e2, h2⟩ := h1.opt
        clear h h1
        have e3 := ints?_eq e1
        have e4 := ints?_eq e2
        subst e3 e4
        have e5 := w1.ints
        have e6 := w2.ints
        subst e5 e6
        exact op_ltT (by omega) pins s σ H _ _ v u Q I rx ry ⟨_, _, _, _, rfl, rfl, by rw [hK]; exact q1, by rw [hK]; exact q2, h2.val o (.bl _)⟩
  · obtain ⟨c, hc, h⟩ := h.opt
    obtain ⟨p, q, e1, e2, h1, h2, rfl⟩ := eqD_eq hc
    exact op_eqD hu pins s σ H _ _ v u Q I rx ry ⟨p, q, by rw [hK]; exact r1.dp o e1, by rw [hK]; exact r2.dp o e2, h1, h2, h.val o (.bl _)⟩
  · obtain ⟨c, hc, h⟩ := h.opt
    obtain ⟨p, q, e1, e2, h1, h2, rfl⟩ := eqD_eq hc
    exact op_neD hu pins s σ H _ _ v u Q I rx ry ⟨p, q, by rw [hK]; exact r1.dp o e1, by rw [hK]; exact r2.dp o e2, h1, h2, h.val o (.bl _)⟩
  · cases r2
    refine op_isN pins s σ H _ _ v u Q I rx ry ⟨rfl, h.val o ?_⟩
    cases r1 <;> exact .bl _
  · cases r2
    refine op_notN pins s σ H _ _ v u Q I rx ry ⟨rfl, h.val o ?_⟩
    cases r1 <;> exact .bl _
  · exact h.elim
end
end DI
end
section
set_option maxRecDepth 100000
set_option maxHeartbeats 1000000
/-! DI4: built-in functions, subscripts, slices, methods. -/
namespace DI
open PySem PySem.Spec PyProof.Rows L2

section
variable {prog : Program} {w : World} {A : Around} {E : Value → Shared → Prop} {s : Shared} {l : Addr} {its : List Value} {ns : List Int} {Q : Value → Shared → Prop}
/-- sum of a tuple of ints -/
theorem sum_tup (hh : A.handled = none) (hl : s.heap.IsTuple l its.toArray) (hi : IntsAre its ns)
    (h : ∀ h' tk t', (∀ b o, s.heap.get? b = some o → h'.get? b = some o) → Q (.int ns.sum t') { s with heap := h', toks := tk }) : wpAny (model prog w) A (call (.builtin "sum") [.ref l]) Q E s := by
  obtain ⟨xs, e⟩ := hi.allInts.items
  have hn : numsOf (intItems xs).toList = ns := by rw [← e]; exact hi.numsOf
  rw [nums_intItems] at hn
  rw [e] at hl
  have hlt : l < s.heap.objs.size := by obtain ⟨_, e, _⟩ := hl; exact Heap.lt_size e
  refine call_sum_walkG (wpAny_pyIter_tuple hl ?_)
  refine ⟨_, _, _, _, _, _, numAt xs, rfl, Walks.tuple (A := A.in1) hh _ l (Nat.ne_of_lt hlt) (intItems xs), ⟨⟨_, Heap.get?_push_size _ rfl, rfl, rfl⟩, hl.push _⟩, fun b hb => ?_, (fun _ _ => intItems_at), fun h' tk t' hk => ?_⟩
  · show b < (s.heap.push _).objs.size
    rw [Heap.size_push]
    rcases List.mem_cons.mp hb with rfl | hb
    · exact Nat.lt_succ_self _
    · rcases List.mem_cons.mp hb with rfl | hb
      · exact Nat.lt_succ_of_lt hlt
      · cases hb
  · have := h h' tk t' fun b o e => hk b o (fun hm => by rw [List.mem_singleton.mp hm] at e; exact absurd (Heap.lt_size e) (Nat.lt_irrefl _)) (Heap.get?_push_of_some _ e)
    rw [preSum_eq, List.take_of_length_le (by simp [intItems]), hn]; exact this
end

section
variable {G : Glb} {X : Cx}
theorem cr_sumT (hc : X.calm = true) : CallR X (.builtin "sum") (fun vs H Q => ∃ (a : Addr) (ns : List Int), vs = [V.ref a] ∧ SqT X.K H a (ns.map V.int) ∧ Q (.int ns.sum) H) := by
  intro pins s σ H xs us Q I r h
  obtain ⟨a, ns, rfl, hq, q⟩ := h
  have e := Vals.ref1 r
  subst e
  obtain ⟨its, rv, p, _⟩ := I.tuple hq
  exact sum_tup (I.ok.hd hc) (show s.heap.IsTuple a its.toArray from p) rv.ints fun h' tk t' hk => ⟨.int ns.sum, H, I.kept (t' := tk) hk, ⟨_, rfl⟩, q⟩

/-- the types of isinstance -/
def tyN : Ty → String
  | .int => "int" | .bool => "bool" | .str => "str" | .tuple => "tuple" | .list => "list"
def tyD : D → Option String
  | .non => some "NoneType" | .bl _ => some "bool" | .int _ => some "int" | .str _ => some "str" | .tup _ => some "tuple" | .fl _ => some "list" | .kl _ => some "list" | .lst _ => some "list"
  | _ => none
theorem isTy_kit {K : PySem.W.Frag} {d : D} {t : Ty} {b : Bool} (h : isTy d t = some b) : ∃ T, tyD d = some T ∧ PySem.W.kitOne K (.type T) (.type (tyN t)) = some b := by
  cases d <;> cases t <;> simp [isTy] at h <;> subst h <;> exact ⟨_, rfl, kit_ty (by decide +kernel)⟩
theorem isTys_kit {K : PySem.W.Frag} {d : D} {T : String} (hT : tyD d = some T) : ∀ {ts : List Ty} {b : Bool}, isTys d ts = some b → PySem.W.kitAny K (.type T) (ts.map fun t => .type (tyN t)) = some b
  | [], b, h => by simp [isTys] at h; subst h; rfl
  | t :: ts, b, h => by
    simp only [isTys] at h
    split at h
    · rename_i e
      cases h
      obtain ⟨T', e1, e2⟩ := isTy_kit (K := K) e
      rw [hT] at e1; cases e1
      exact kitAny_cons e2 (fun z => nomatch z) fun _ => rfl
    · rename_i e
      obtain ⟨T', e1, e2⟩ := isTy_kit (K := K) e
      rw [hT] at e1; cases e1
      exact kitAny_cons e2 (fun _ => isTys_kit hT h) fun z => nomatch z
    · cases h
theorem RD.tyx {fa pr ph : List Addr} {H : Hp} {S : Store} {d : D} {v : V} {T : String} (o : SOk G.K fa pr ph S H) (r : DI.RD G.K fa pr ph H d v) (h : tyD (liveD S d) = some T) : TyX G.K H v (.type T) := by
  cases r with
  | non => cases h; exact .base .non
  | bl b => cases h; exact .base (.bl b)
  | int i => cases h; exact .base (.int i)
  | str cs => cases h; exact .base (.str _)
  | tup q _ =>
    cases h
    rcases q with (q | ⟨ob, q⟩) | ⟨ob, its, n, q1, q2, _⟩
    · exact .base (.tup q)
    · exact .fTuple q
    · exact .kTuple q1 q2
  | fl _ _ q _ => cases h; exact .base (.lst q)
  | kl q _ =>
    cases h
    rcases q with ⟨_, _, q | ⟨ob, q⟩⟩ | ⟨ob, its, n, q1, q2, _⟩
    · exact .base (.lst q)
    · exact .base (.frz q)
    · exact .kList q1 q2
  | @lst k a q =>
    unfold liveD at h
    simp only at h
    split at h
    · rename_i hs
      cases h
      obtain ⟨ds, e⟩ := Option.isSome_iff_exists.mp hs
      obtain ⟨vs, e, _⟩ := o.lst (cellL_eq e) q
      exact .base (.lst e)
    · cases h
  | dct _ => cases h
  | fn _ => cases h

/-- a built-in function's id or type -/
def biV : Bi → Value
  | .abs => .builtin "abs" | .len => .builtin "len" | .all => .builtin "all" | .any => .builtin "any" | .sum => .builtin "sum"
  | .int => .type "int" | .list => .type "list" | .tuple => .type "tuple" | .lenset => .none
def rB1 (G : Glb) (b : Bi) : List V → Hp → VK → Prop := fun vs H Q => ∃ v, vs = [v] ∧ rU1 G (bi b) v H Q
theorem callR_bi (hK : X.K = G.K) (hc : X.calm = true) (b : Bi) : CallR X (biV b) (rB1 G b) := by
  intro pins s σ H xs us Q I r h
  obtain ⟨v, rfl, ph, S, d, σ', W, o, rd, h⟩ := h
  unfold bi at h
  split at h
  · cases rd; exact call_abs pins s σ H _ us Q I r ⟨_, rfl, h.val o (.int _)⟩
  · cases rd; exact call_int1 pins s σ H _ us Q I r (.inl ⟨_, rfl, h.val o (.int _)⟩)
  · cases rd; exact call_int1 pins s σ H _ us Q I r (.inr ⟨_, rfl, h.val o (.int _)⟩)
  · cases rd
    split at h
    · rename_i cs hz
      exact call_len pins s σ H _ us Q I r ⟨_, cs.length, rfl, ⟨by rw [str_len, ← limEq]; exact hz, (str_len cs).symm⟩, h.val o (.int _)⟩
    · exact h.elim
  · obtain ⟨ds, e, h⟩ := h.opt
    obtain ⟨a, vs, rfl, q, w⟩ := rd.items o e
    refine call_len_seq pins s σ H _ us Q I r ⟨a, vs, rfl, by rw [hK]; exact q, ?_⟩
    have := h.val o (.int _)
    rw [w.length] at this
    exact this
  · obtain ⟨bs, e, h⟩ := h.opt
    obtain ⟨ds, e1, e2⟩ := Option.bind_eq_some_iff.mp e
    obtain ⟨a, vs, rfl, q, w⟩ := rd.list o e1
    have e3 := bls?_eq e2
    subst e3
    have e4 := w.bls
    subst e4
    exact cr_all hc pins s σ H _ us Q I r ⟨a, bs, rfl, by rw [hK]; exact q, h.val o (.bl _)⟩
  · obtain ⟨bs, e, h⟩ := h.opt
    obtain ⟨ds, e1, e2⟩ := Option.bind_eq_some_iff.mp e
    obtain ⟨a, vs, rfl, q, w⟩ := rd.list o e1
    have e3 := bls?_eq e2
    subst e3
    have e4 := w.bls
    subst e4
    exact cr_any hc pins s σ H _ us Q I r ⟨a, bs, rfl, by rw [hK]; exact q, h.val o (.bl _)⟩
  · obtain ⟨ns, e, h⟩ := h.opt
    obtain ⟨ds, e1, e2⟩ := Option.bind_eq_some_iff.mp e
    obtain ⟨a, vs, rfl, q, w⟩ := rd.items o e1
    have e3 := ints?_eq e2
    subst e3
    have e4 := w.ints
    subst e4
    rcases q with q | q
    · exact cr_sum hc pins s σ H _ us Q I r ⟨a, ns, rfl, by rw [hK]; exact q, h.val o (.int _)⟩
    · exact cr_sumT hc pins s σ H _ us Q I r ⟨a, ns, rfl, by rw [hK]; exact q, h.val o (.int _)⟩
  · cases rd with
    | tup q w => exact call_tupleT pins s σ H _ us Q I r ⟨_, _, rfl, by rw [hK]; exact q, h.val o (.tup q w)⟩
  · obtain ⟨ds, e, h⟩ := h.opt
    obtain ⟨a, vs, rfl, q, w⟩ := rd.list o e
    exact call_tuple_of pins s σ H _ us Q I r ⟨a, vs, rfl, .inl ⟨by rw [hK]; exact q, h.tup o w⟩⟩
  · exact h.elim

/-- isinstance -/
theorem callR_isi {ts : List Ty} (hK : X.K = G.K) : CallR X (.builtin "isinstance") (fun vs H Q => ∃ v c ph S d b, vs = [v, c] ∧ G.SOk ph S H ∧ G.RD ph H d v ∧ isTys (liveD S d) ts = some b ∧
    ((∃ t, ts = [t] ∧ c = .ty (tyN t)) ∨ (ts ≠ [] ∧ ∃ p, c = .ref p ∧ H p = some (.tup (ts.map fun t => .ty (tyN t))))) ∧ Q (.bl b) H) := by
  intro pins s σ H xs us Q I r h
  obtain ⟨v, c, ph, S, d, b, rfl, o, rd, e, hc, q⟩ := h
  have hT : ∃ T, tyD (liveD S d) = some T := by
    rcases hc with ⟨t, rfl, _⟩ | ⟨hne, _⟩
    · simp only [isTys] at e
      split at e
      · rename_i e1; obtain ⟨T, h1, _⟩ := isTy_kit (K := G.K) e1; exact ⟨T, h1⟩
      · rename_i e1; obtain ⟨T, h1, _⟩ := isTy_kit (K := G.K) e1; exact ⟨T, h1⟩
      · cases e
    · cases ts with
      | nil => exact absurd rfl hne
      | cons t ts =>
        simp only [isTys] at e
        split at e
        · rename_i e1; obtain ⟨T, h1, _⟩ := isTy_kit (K := G.K) e1; exact ⟨T, h1⟩
        · rename_i e1; obtain ⟨T, h1, _⟩ := isTy_kit (K := G.K) e1; exact ⟨T, h1⟩
        · cases e
  obtain ⟨T, hT⟩ := hT
  have ka := isTys_kit (K := X.K) hT e
  have ty := rd.tyx (G := G) o hT
  rcases hc with ⟨t, rfl, rfl⟩ | ⟨hne, p, rfl, hp⟩
  · refine call_isi pins s σ H _ us Q I r ⟨v, _, _, _, b, rfl, .ty _, by rw [hK]; exact ty, ?_, q⟩
    simp only [List.map_cons, List.map_nil, PySem.W.kitAny] at ka
    revert ka
    cases PySem.W.kitOne X.K (Value.type T) (Value.type (tyN t)) with
    | none => intro ka; cases ka
    | some c => cases c <;> intro ka <;> exact ka
  · refine call_isiT pins s σ H _ us Q I r ⟨v, p, _, _, ts.map fun t => .type (tyN t), b, rfl, hp, ?_, by rw [hK]; exact ty, ka, q⟩
    clear e ka hp hne
    induction ts with
    | nil => exact .nil
    | cons t ts ih => exact .cons (.ty _) ih

/-! ### subscripts -/
theorem at_rd {K : PySem.W.Frag} {fa pr ph : List Addr} {H : Hp} {ds : List D} {vs : List V} {k : Int} {d : D} (w : DI.RDs K fa pr ph H ds vs) (h : atI ds k = some d) : ∃ v, atI vs k = some v ∧ DI.RD K fa pr ph H d v := by
  unfold atI at h ⊢
  rw [← w.length]
  obtain ⟨j, e1, e2⟩ := Option.bind_eq_some_iff.mp h
  obtain ⟨v, h1, h2⟩ := w.get e2
  exact ⟨v, by rw [e1]; exact h1, h2⟩
theorem ixR_ix (hK : X.K = G.K) : IxR X (rO G ixD) := by
  intro value slice pins s σ H x y v u Q I rx ry h he
  obtain ⟨ph, S, da, db, σ', W, o, r1, r2, h⟩ := h
  unfold ixD at h
  split at h
  · cases r1; cases r2
    split at h
    · rename_i cs k hz
      obtain ⟨c, e, h⟩ := h.opt
      refine ix_str value slice pins s σ H _ _ v u Q I rx ry ⟨_, _, c, rfl, rfl, by rw [str_len, ← limEq]; exact hz, e, ?_⟩ he
      exact h.val o (.str [c])
    · exact h.elim
  · cases r2
    obtain ⟨ds, e, h⟩ := h.opt
    obtain ⟨d, e2, h⟩ := h.opt
    obtain ⟨a, vs, rfl, q, w⟩ := r1.items o e
    obtain ⟨v', h1, h2⟩ := at_rd w e2
    rcases q with q | q
    · exact ix_list value slice pins s σ H _ _ v u Q I rx ry ⟨_, _, _, _, rfl, rfl, by rw [hK]; exact q, h1, h.val o h2⟩ he
    · exact ix_tup value slice pins s σ H _ _ v u Q I rx ry ⟨_, _, _, _, rfl, rfl, by rw [hK]; exact q, h1, h.val o h2⟩ he
  · exact h.elim
theorem slR_sl (hK : X.K = G.K) : SlR X (fun x lo hi H Q => rU1 G (fun d S => slD d lo hi S) x H Q) := by
  intro pins s σ H x v vl vu lo hi sl Q I rx hs pl pu h
  obtain ⟨ph, S, d, σ', W, o, rd, h⟩ := h
  have h : Post G ph H σ' W G.RD (slD d lo hi S) Q := h
  unfold slD at h
  split at h
  · cases rd with
    | tup q w =>
      refine sl_tupA pins s σ H _ v vl vu lo hi sl Q I rx hs pl pu ⟨_, _, rfl, by rw [hK]; exact q, fun hw => ?_, fun _ => h.tup o w.cut⟩
      refine h.val o ?_
      have w2 := w.cut (lo := lo) (hi := hi)
      rename_i ds a vs
      have : cutV vs lo hi = vs := by
        unfold cutV
        rw [hw.1, hw.2]
        simp
      rw [this] at w2
      exact .tup q w2
  · obtain ⟨ds, e, h⟩ := h.opt
    obtain ⟨a, vs, rfl, q, w⟩ := rd.list o e
    exact sl_list pins s σ H _ v vl vu lo hi sl Q I rx hs pl pu ⟨_, _, rfl, by rw [hK]; exact q, h.fl o w.cut⟩
theorem psetR_set : PSet X (fun o i v H Q => ∃ ph S x y d σ W, G.SOk ph S H ∧ G.RD ph H x o ∧ G.RD ph H y i ∧ G.RD ph H d v ∧ Post G ph H σ W (fun _ _ _ (_ : Unit) => True) (setD x y d S) (fun _ => Q)) := by
  intro pins s σ H ov iv v u1 u2 u3 Q I r1 r2 r3 h
  obtain ⟨ph, S, x, y, d, σ', W, o, rx, ry, rd, h⟩ := h
  unfold setD at h
  split at h
  · cases ry
    rename_i k j
    obtain ⟨ds, e, h⟩ := h.opt
    obtain ⟨m, e2, h⟩ := h.opt
    cases rx with
    | @lst _ a hk =>
      obtain ⟨vs, q, w⟩ := o.lst (cellL_eq e) hk
      refine set_list pins s σ H _ _ v u1 u2 u3 Q I r1 r2 r3 ⟨a, vs, j, m, rfl, rfl, q, by rw [← w.length]; exact e2, ?_⟩
      exact Post.ok' (b := ()) h (Nxt.write (List.mem_of_getElem? hk)) (o.write hk (w.set rd m)) True.intro
  · exact h.elim
end
end DI
end
section
set_option maxRecDepth 100000
set_option maxHeartbeats 1000000
/-! DI5: the judgement, the rules for expressions. -/
namespace DI
open PySem PySem.Spec PyProof.Rows L2

/-- what is known of a frame's names -/
structure Gam where
  N : List Str
  sc : Scope
  fn : Str → Bool
/-- what is known of the module's names -/
structure Tab where
  defs : List (Str × Nat)
  cons : List (Str × D)
  clss : List (Str × Nat)
  bltn : List Str
abbrev Glb.wp (G : Glb) (pr : List Addr) : Glb := { G with pr := pr }
/-- an own exception class -/
structure ClsOk (G : Glb) (C : Addr) : Prop where
  base : ∃ (B newId initId : String) (bmB : List Value), ExcBaseFacts B newId initId bmB ∧ PySem.W.excIn G.K C bmB newId = true
  keep : PySem.W.keepIn G.K (.ref C) = true
  sub : PySem.W.subIn G.K (.ref C) (.type "BaseException") = some true
  typ : PySem.W.typeIn G.K (.ref C) = some (.type "type")
structure TabOk (G : Glb) (T : Tab) : Prop where
  exc : ∀ (c : Nat) (C : Addr), G.cls[c]? = some C → ClsOk G C
  exm : ∀ (c c' : Nat) (C C' : Addr), G.cls[c]? = some C → G.cls[c']? = some C' → PySem.W.exmOne G.K (.ref C) (.ref C') = some (decide (c = c'))
  defs : ∀ x f, T.defs.lookup x = some f → ∃ a, G.fa[f]? = some a ∧ G.mg x = some (.ref a)
  cons : ∀ x d, T.cons.lookup x = some d → ∃ v u, G.mg x = some u ∧ RelV v u ∧ ∀ pr ph H, (G.wp pr).RD ph H d v
  clss : ∀ x c, T.clss.lookup x = some c → ∃ C, G.cls[c]? = some C ∧ G.mg x = some (.ref C)
  bltn : ∀ x, x ∈ T.bltn → G.mg x = none

/-- what a def promises, by the small language -/
def spI (G : Glb) (cf : Nat → List D → Store → R D) (i : Nat) : Sp := fun vs H Q E => ∃ pr ph S ds, (G.wp pr).SOk ph S H ∧ (G.wp pr).RDs ph H ds vs ∧ Post (G.wp pr) ph H [] (fun cv dd _ H' => E cv dd H') (G.wp pr).RD (cf i ds S) Q
def CallsOk (G : Glb) (cf : Nat → List D → Store → R D) (A : Around) : Prop := ∀ i a, G.fa[i]? = some a → ∃ k fd ps, Room k A ∧ FnOk G.P G.w G.K G.mg G.base (L2.CX G.P G.w) k a fd ps (spI G cf i) ∧ PySem.W.keepIn G.K (.ref a) = true ∧ Binds G.K fd ps []

structure Good (G : Glb) (T : Tab) (cf : Nat → List D → Store → R D) (g : Gam) (X : Cx) (W : WX) : Prop where
  tab : TabOk G T
  prog : X.prog = G.P
  w : X.w = G.w
  K : X.K = G.K
  mg : X.mg = G.mg
  base : X.base = G.base
  N : X.N = g.N
  sc : X.env.scope = g.sc
  fn : X.fn = g.fn
  nd : X.N.Nodup
  calm : X.calm = true
  tk : Takes X W
  pass : PassesOwn (model X.prog X.w) X.A X.env X.xe
  units : X.A.units + 200 < cLine
  calls : CallsOk G cf X.A

/-- the reading of an expression of the small language -/
def tE (G : Glb) (cf : Nat → List D → Store → R D) (W : WX) (c : E) : TE := fun σ H Q => ∃ pr ph s S, (G.wp pr).RSl ph H s σ ∧ (G.wp pr).SOk ph S H ∧ Post (G.wp pr) ph H σ W (G.wp pr).RD (evalE cf c s S) Q
def tT (G : Glb) (cf : Nat → List D → Store → R D) (W : WX) (c : E) : TT := fun σ H Q => ∃ pr ph s S, (G.wp pr).RSl ph H s σ ∧ (G.wp pr).SOk ph S H ∧ Post (G.wp pr) ph H σ W (fun _ _ a b => a = b) ((evalE cf c s S).bind isBl) Q
def tEs (G : Glb) (cf : Nat → List D → Store → R D) (W : WX) (cs : List E) : TA := fun σ H Q => ∃ pr ph s S, (G.wp pr).RSl ph H s σ ∧ (G.wp pr).SOk ph S H ∧ Post (G.wp pr) ph H σ W (G.wp pr).RDs (evalEs cf cs s S) Q

section
variable {X : Cx} {e : Expr} {t t' : TE}
theorem _root_.L2.PE.imp (h : PE X e t) (f : ∀ σ H Q, t' σ H Q → t σ H Q) : PE X e t' := ⟨fun pins s σ H Q I q => h.run pins s σ H Q I (f σ H Q q)⟩
theorem _root_.L2.PT.imp {t t' : TT} (h : PT X e t) (f : ∀ σ H Q, t' σ H Q → t σ H Q) : PT X e t' := ⟨fun pins s σ H Q I q => h.run pins s σ H Q I (f σ H Q q)⟩
theorem _root_.L2.PW.imp {t t' : TT} (h : PW X e t) (f : ∀ σ H Q, t' σ H Q → t σ H Q) : PW X e t' := ⟨fun wh pins s σ H Q I q => h.run wh pins s σ H Q I (f σ H Q q)⟩
theorem _root_.L2.PA.imp {es : List Expr} {t t' : TA} (h : PA X es t) (f : ∀ σ H Q, t' σ H Q → t σ H Q) : PA X es t' := ⟨fun pos pins s σ H Q I q => h.run pos pins s σ H Q I (f σ H Q q)⟩
theorem _root_.L2.PI.imp {tg : Expr} {t t' : TI} (h : PI X tg e t) (f : ∀ σ H R, t' σ H R → t σ H R) : PI X tg e t' := ⟨fun pins s σ H R I q => h.run pins s σ H R I (f σ H R q)⟩
end

section
variable (T : Tab) (cf : Nat → List D → Store → R D) (g : Gam)
/-- the expression does what c says -/
def SE (c : E) (e : Expr) : Prop := ∀ (G : Glb) (X : Cx) (W : WX), Good G T cf g X W → PE X e (tE G cf W c)
def SEs (cs : List E) (es : List Expr) : Prop := ∀ (G : Glb) (X : Cx) (W : WX), Good G T cf g X W → PA X es (tEs G cf W cs)
def SeT (c : E) (e : Expr) : Prop := ∀ (G : Glb) (X : Cx) (W : WX), Good G T cf g X W → PT X e (tT G cf W c)
end

/-! ### side conditions by computation -/
def visB (sc : Scope) (x : Str) : Bool := match sc.names.lookup x with
  | some .local => true | some .cell => true | some .free => true | _ => false
def glB (sc : Scope) (x : Str) : Bool := match sc.names.lookup x with
  | some .globalImplicit => true | _ => false
def okN (x : Str) : Bool := !(x == ("__debug__" : Str)) && !(x == ("__classdict__" : Str)) && !(x == ("__name__" : Str))
def starB : Expr → Bool
  | .Starred .. => true | _ => false
def setB : Expr → Bool
  | .Set .. => true | _ => false
theorem okN1 {x : Str} (h : okN x = true) : (x == ("__debug__" : Str)) = false := by
  unfold okN at h; simp only [Bool.and_eq_true, Bool.not_eq_true'] at h; exact h.1.1
theorem okN2 {x : Str} (h : okN x = true) : (x == ("__classdict__" : Str)) = false := by
  unfold okN at h; simp only [Bool.and_eq_true, Bool.not_eq_true'] at h; exact h.1.2
theorem okN3 {x : Str} (h : okN x = true) : x ≠ ("__name__" : Str) := by
  unfold okN at h; simp only [Bool.and_eq_true, Bool.not_eq_true'] at h
  intro e; rw [e] at h; exact absurd h.2 (by simp)
theorem star_cons {e : Expr} (h : starB e = false) (es : List Expr) (env : Env) : starEach (e :: es) env = (false, eval e env) :: starEach es env := by
  cases e <;> first | rfl | cases h
theorem star_none : ∀ {es : List Expr} (env : Env), es.all (fun e => !starB e) = true → (starEach es env).any (·.1) = false
  | [], env, _ => rfl
  | e :: es, env, h => by
    simp only [List.all_cons, Bool.and_eq_true, Bool.not_eq_true'] at h
    rw [star_cons h.1, List.any_cons, star_none env h.2]; rfl
theorem back_any (pos : Pos) (l : List (Bool × Sem Value)) : (backTo pos l).any (·.1) = l.any (·.1) := by
  unfold backTo
  rw [List.any_map]
  rfl
theorem set_none {e : Expr} (h : setB e = false) (env : Env) (x : Value) : foldedSetIterable e env x = pure x := by
  cases e <;> first | rfl | cases h
theorem mark_none {e : Expr} (h : setB e = false) (op : CmpOp) : behindInMarks op e = false := by
  cases e <;> first | rfl | cases h

section
variable {T : Tab} {cf : Nat → List D → Store → R D} {g : Gam} {G : Glb} {X : Cx} {W : WX} {pos p : Pos} {x : Str}
theorem Good.vis (gd : Good G T cf g X W) (h : visB g.sc x = true) : Vis X.env.scope x := by
  rw [gd.sc]
  unfold visB at h
  unfold Vis
  split at h <;> simp_all
theorem Good.gl (gd : Good G T cf g X W) (h : glB g.sc x = true) : Gl X x := by
  show X.env.scope.names.lookup x = _
  rw [gd.sc]
  unfold glB at h
  split at h <;> simp_all
theorem Good.ix {i : Nat} (gd : Good G T cf g X W) (h : g.N[i]? = some x) : X.N[i]? = some x := by rw [gd.N]; exact h

/-! ### names, constants -/
theorem se_var {i : Nat} (h1 : g.N[i]? = some x) (h2 : visB g.sc x = true) (h3 : okN x = true) : SE T cf g (.var i) (.Name x pos) := fun G X W gd =>
  (pe_var (gd.ix h1) (gd.vis h2) (okN1 h3) (okN2 h3)).imp fun σ H Q ⟨pr, ph, s, S, rs, o, h⟩ => by
    simp only [evalE] at h
    split at h
    · rename_i d e
      obtain ⟨v, h1, h2⟩ := rs.at_ i d e
      exact ⟨v, h1, h.val o h2⟩
    · exact h.elim
theorem se_glo {d : D} (h1 : T.cons.lookup x = some d) (h2 : glB g.sc x = true) (h3 : okN x = true) : SE T cf g (.con d) (.Name x pos) := fun G X W gd => by
  obtain ⟨v, u, q1, q2, q3⟩ := gd.tab.cons x d h1
  exact (pe_glob (gd.gl h2) (by rw [gd.mg]; exact q1) q2 (okN1 h3)).imp fun σ H Q ⟨pr, ph, s, S, rs, o, h⟩ => h.val o (q3 pr ph H)
theorem se_def {f : Nat} (h1 : T.defs.lookup x = some f) (h2 : glB g.sc x = true) (h3 : okN x = true) : SE T cf g (.con (.fn f)) (.Name x pos) := fun G X W gd => by
  obtain ⟨a, q1, q2⟩ := gd.tab.defs x f h1
  exact (pe_glob (v := .ref a) (gd.gl h2) (by rw [gd.mg]; exact q2) rfl (okN1 h3)).imp fun σ H Q ⟨pr, ph, s, S, rs, o, h⟩ => h.val o (.fn q1)
theorem se_int {i : Int} {j : Nat} : SE T cf g (.con (.int i)) (.Constant (.int i) j pos) := fun G X W gd => pe_int.imp fun σ H Q ⟨pr, ph, s, S, rs, o, h⟩ => h.val o (.int i)
theorem se_bl {b : Bool} {j : Nat} : SE T cf g (.con (.bl b)) (.Constant (.bool b) j pos) := fun G X W gd => pe_bl.imp fun σ H Q ⟨pr, ph, s, S, rs, o, h⟩ => h.val o (.bl b)
theorem se_non {j : Nat} : SE T cf g (.con .non) (.Constant .none j pos) := fun G X W gd => pe_non.imp fun σ H Q ⟨pr, ph, s, S, rs, o, h⟩ => h.val o .non
theorem se_str {cs : List Nat} {z : Str} {j : Nat} (h : z = ⟨cs.toArray⟩) : SE T cf g (.con (.str cs)) (.Constant (.str z) j pos) := fun G X W gd => by
  subst h
  exact pe_str.imp fun σ H Q ⟨pr, ph, s, S, rs, o, h⟩ => h.val o (.str cs)

/-! ### operators -/
variable {a b c : E} {ea eb ec : Expr}
/-- two expressions, one behind the other -/
theorem two {f : D → D → Store → R D} {σ : L2.St} {H : Hp} {Q : VK} {pr ph : List Addr} {s : Sl} {S : Store} (rs : (G.wp pr).RSl ph H s σ) (o : (G.wp pr).SOk ph S H)
    (h : Post (G.wp pr) ph H σ W (G.wp pr).RD ((evalE cf a s S).bind fun x S1 => (evalE cf b s S1).bind fun y S2 => f x y S2) Q) : tE G cf W a σ H fun x H1 => tE G cf W b σ H1 fun y H2 => rO (G.wp pr) f x y H2 Q := by
  refine ⟨pr, ph, s, S, rs, o, h.seq.imp fun v H1 ⟨ph1, S1, d, n1, o1, rd, _, h1⟩ => ?_⟩
  refine ⟨pr, ph1, s, S1, rs.next n1 o, o1, h1.seq.imp fun v2 H2 ⟨ph2, S2, d2, n2, o2, rd2, _, h2⟩ => ?_⟩
  exact ⟨ph2, S2, d, d2, _, _, o2, rd.next n2 o1, rd2, h2⟩
theorem _root_.L2.OpR.wp {f : Value → Value → Sem Value} {r : List Addr → R2} (h : ∀ pr, OpR X f (r pr)) : OpR X f (fun x y H Q => ∃ pr, r pr x y H Q) :=
  fun pins s σ H x y v u Q I rx ry ⟨pr, q⟩ => h pr pins s σ H x y v u Q I rx ry q
theorem tOp_of {f : D → D → Store → R D} {σ : L2.St} {H : Hp} {Q : VK} {pr : List Addr} {ta tb : TE} (mb : ∀ σ H Q Q', (∀ v H, Q v H → Q' v H) → tb σ H Q → tb σ H Q') (ma : ∀ σ H Q Q', (∀ v H, Q v H → Q' v H) → ta σ H Q → ta σ H Q')
    (h : ta σ H fun x H1 => tb σ H1 fun y H2 => rO (G.wp pr) f x y H2 Q) : tOp (fun x y H Q => ∃ pr, rO (G.wp pr) f x y H Q) ta tb σ H Q :=
  ma _ _ _ _ (fun _ _ q => mb _ _ _ _ (fun _ _ q => ⟨pr, q⟩) q) h
theorem tE_mono {c : E} : ∀ (σ : L2.St) (H : Hp) (Q Q' : VK), (∀ v H, Q v H → Q' v H) → tE G cf W c σ H Q → tE G cf W c σ H Q' := fun σ H Q Q' hq ⟨pr, ph, s, S, rs, o, h⟩ => ⟨pr, ph, s, S, rs, o, h.imp hq⟩
theorem se_bin {op : Operator} (ha : SE T cf g a ea) (hb : SE T cf g b eb) : SE T cf g (.bin op a b) (.BinOp ea op eb pos) := fun G X W gd =>
  (pe_op (L2.OpR.wp fun pr => opR_bin (G := G.wp pr) gd.K op) (ha G X W gd) (hb G X W gd)).imp fun σ H Q ⟨pr, ph, s, S, rs, o, h⟩ => tOp_of tE_mono tE_mono (two rs o (by simp only [evalE] at h; exact h))
theorem Good.u64 (gd : Good G T cf g X W) : X.A.units + 64 < cLine := by have := gd.units; omega
theorem se_cmp {op : CmpOp} (ha : SE T cf g a ea) (hb : SE T cf g b eb) (hm : setB eb = false) : SE T cf g (.cmp op a b) (.Compare ea [op] [eb] pos) := fun G X W gd =>
  (pe_cmpR (L2.OpR.wp fun pr => opR_cmp (G := G.wp pr) gd.K gd.u64 op) (ha G X W gd) (hb G X W gd) (mark_none hm op)).imp fun σ H Q ⟨pr, ph, s, S, rs, o, h⟩ => tOp_of tE_mono tE_mono (two rs o (by simp only [evalE] at h; exact h))
/-- a value that must be a bool -/
theorem blOf {K : PySem.W.Frag} {fa pr ph : List Addr} {H : Hp} {d : D} {v : V} (rd : DI.RD K fa pr ph H d v) (h : ¬ (∀ b, d ≠ .bl b)) : ∃ k, d = .bl k ∧ v = .bl k := by
  cases rd with
  | bl k => exact ⟨k, rfl, rfl⟩
  | _ => exact absurd (fun b z => nomatch z) h
/-- a test by a value that is a bool -/
theorem tT_of {c : E} {σ : L2.St} {H : Hp} {Q : Bool → Hp → Prop} (h : tT G cf W c σ H Q) : tE G cf W c σ H fun x H1 => ∃ k, x = .bl k ∧ Q k H1 := by
  obtain ⟨pr, ph, s, S, rs, o, h⟩ := h
  refine ⟨pr, ph, s, S, rs, o, h.seq.imp fun v H1 ⟨ph1, S1, d, n1, o1, rd, _, h1⟩ => ?_⟩
  obtain ⟨k, e1, e2⟩ := blOf rd (fun hn => by cases rd <;> first | exact h1.elim | exact hn _ rfl)
  subst e1 e2
  exact ⟨k, rfl, Post.ok h1 o1 rfl⟩
theorem st_cmp {op : CmpOp} (ha : SE T cf g a ea) (hb : SE T cf g b eb) (hm : setB eb = false) : SeT T cf g (.cmp op a b) (.Compare ea [op] [eb] pos) := fun G X W gd =>
  (pt_cmpR (L2.OpR.wp fun pr => opR_cmp (G := G.wp pr) gd.K gd.u64 op) (ha G X W gd) (hb G X W gd) (mark_none hm op)).imp fun σ H Q h => by
    obtain ⟨pr, ph, s, S, rs, o, h⟩ := tT_of h
    exact tOp_of tE_mono tE_mono (two rs o (by simp only [evalE] at h; exact h))
theorem se_chn {op op' : CmpOp} (ha : SE T cf g a ea) (hb : SE T cf g b eb) (hc : SE T cf g c ec) (hm : setB ec = false) : SE T cf g (.chn op op' a b c) (.Compare ea [op, op'] [eb, ec] pos) := fun G X W gd =>
  (pe_chain (L2.OpR.wp fun pr => opR_cmp (G := G.wp pr) gd.K gd.u64 op) (L2.OpR.wp fun pr => opR_cmp (G := G.wp pr) gd.K gd.u64 op') (ha G X W gd) (hb G X W gd) (hc G X W gd) (mark_none hm op')).imp fun σ H Q ⟨pr, ph, s, S, rs, o, h⟩ => by
    simp only [evalE] at h
    refine ⟨pr, ph, s, S, rs, o, h.seq.imp fun v H1 ⟨ph1, S1, d, n1, o1, rd, _, h1⟩ => ?_⟩
    refine ⟨pr, ph1, s, S1, rs.next n1 o, o1, h1.seq.imp fun v2 H2 ⟨ph2, S2, d2, n2, o2, rd2, _, h2⟩ => ?_⟩
    refine ⟨pr, ph2, S2, d, d2, σ, W, o2, rd.next n2 o1, rd2, h2.seq.imp fun v3 H3 ⟨ph3, S3, d3, n3, o3, rd3, _, h3⟩ => ?_⟩
    obtain ⟨k, e1, e2⟩ := blOf rd3 (fun hn => by cases rd3 <;> first | exact h3.elim | exact hn _ rfl)
    subst e1 e2
    refine ⟨k, rfl, ?_⟩
    cases k with
    | true =>
      refine iteT ?_
      refine ⟨pr, ph3, s, S3, ((rs.next n1 o).next n2 o1).next n3 o2, o3, h3.seq.imp fun v4 H4 ⟨ph4, S4, d4, n4, o4, rd4, _, h4⟩ => ?_⟩
      exact ⟨pr, ph4, S4, d2, d4, σ, W, o4, (rd2.next n3 o2).next n4 o3, rd4, h4⟩
    | false =>
      refine iteF ?_
      exact h3.val o3 (.bl false)
theorem st_chn {op op' : CmpOp} (ha : SE T cf g a ea) (hb : SE T cf g b eb) (hc : SE T cf g c ec) (hm : setB ec = false) : SeT T cf g (.chn op op' a b c) (.Compare ea [op, op'] [eb, ec] pos) := fun G X W gd =>
  (pt_chain (L2.OpR.wp fun pr => opR_cmp (G := G.wp pr) gd.K gd.u64 op) (L2.OpR.wp fun pr => opR_cmp (G := G.wp pr) gd.K gd.u64 op') (ha G X W gd) (hb G X W gd) (hc G X W gd) (mark_none hm op')).imp fun σ H Q h => by
    obtain ⟨pr, ph, s, S, rs, o, h⟩ := tT_of h
    simp only [evalE] at h
    refine ⟨pr, ph, s, S, rs, o, h.seq.imp fun v H1 ⟨ph1, S1, d, n1, o1, rd, _, h1⟩ => ?_⟩
    refine ⟨pr, ph1, s, S1, rs.next n1 o, o1, h1.seq.imp fun v2 H2 ⟨ph2, S2, d2, n2, o2, rd2, _, h2⟩ => ?_⟩
    refine ⟨pr, ph2, S2, d, d2, σ, W, o2, rd.next n2 o1, rd2, h2.seq.imp fun v3 H3 ⟨ph3, S3, d3, n3, o3, rd3, _, h3⟩ => ?_⟩
    obtain ⟨k, e1, e2⟩ := blOf rd3 (fun hn => by cases rd3 <;> first | exact h3.elim | exact hn _ rfl)
    subst e1 e2
    refine ⟨k, rfl, ?_⟩
    cases k with
    | true =>
      refine iteT ?_
      refine ⟨pr, ph3, s, S3, ((rs.next n1 o).next n2 o1).next n3 o2, o3, h3.seq.imp fun v4 H4 ⟨ph4, S4, d4, n4, o4, rd4, _, h4⟩ => ?_⟩
      exact ⟨pr, ph4, S4, d2, d4, σ, W, o4, (rd2.next n3 o2).next n4 o3, rd4, h4⟩
    | false =>
      refine iteF ?_
      exact h3.val o3 (.bl false)
/-- not, - -/
theorem se_not (ha : SE T cf g a ea) : SE T cf g (.not a) (.UnaryOp .Not ea pos) := fun G X W gd =>
  (pe_not (ha G X W gd)).imp fun σ H Q ⟨pr, ph, s, S, rs, o, h⟩ => by
    simp only [evalE] at h
    refine ⟨pr, ph, s, S, rs, o, h.seq.imp fun v H1 ⟨ph1, S1, d, n1, o1, rd, _, h1⟩ => ?_⟩
    cases rd <;> first | exact h1.elim | skip
    exact ⟨_, rfl, h1.val o1 (.bl _)⟩
theorem st_not (ha : SeT T cf g a ea) : SeT T cf g (.not a) (.UnaryOp .Not ea pos) := fun G X W gd =>
  (pt_not (ha G X W gd)).imp fun σ H Q h => by
    obtain ⟨pr, ph, s, S, rs, o, h⟩ := tT_of h
    simp only [evalE] at h
    refine ⟨pr, ph, s, S, rs, o, ?_⟩
    cases r : evalE cf a s S with
    | no => rw [r] at h; exact h.elim
    | ex c pl S1 => rw [r] at h; exact h
    | ok d S1 =>
      rw [r] at h
      cases d <;> first | exact h.elim | skip
      rename_i b
      refine fun ph' H' k n o' e => ?_
      have e : b = k := e
      subst e
      obtain ⟨k', e', q⟩ := h ph' H' (.bl (!b)) n o' (.bl _)
      cases e'
      exact q
theorem se_neg (ha : SE T cf g a ea) : SE T cf g (.neg a) (.UnaryOp .USub ea pos) := fun G X W gd =>
  (pe_un un_neg (ha G X W gd)).imp fun σ H Q ⟨pr, ph, s, S, rs, o, h⟩ => by
    simp only [evalE] at h
    refine ⟨pr, ph, s, S, rs, o, h.seq.imp fun v H1 ⟨ph1, S1, d, n1, o1, rd, _, h1⟩ => ?_⟩
    cases rd <;> first | exact h1.elim | skip
    exact ⟨_, rfl, h1.val o1 (.int _)⟩
/-- a if t else b -/
theorem se_ite (hc : SeT T cf g c ec) (ha : SE T cf g a ea) (hb : SE T cf g b eb) : SE T cf g (.ite c a b) (.IfExp ec ea eb pos) := fun G X W gd =>
  (pe_ifExp (hc G X W gd) (ha G X W gd) (hb G X W gd)).imp fun σ H Q ⟨pr, ph, s, S, rs, o, h⟩ => by
    simp only [evalE] at h
    refine ⟨pr, ph, s, S, rs, o, ?_⟩
    cases r : evalE cf c s S with
    | no => rw [r] at h; exact h.elim
    | ex c pl S1 => rw [r] at h; exact h
    | ok d S1 =>
      rw [r] at h
      cases d <;> first | exact h.elim | skip
      rename_i k
      refine fun ph' H' k' n o' e => ?_
      have e : k = k' := e
      subst e
      cases k with
      | true => refine iteT ?_; exact ⟨pr, ph', s, S1, rs.next n o, o', Post.from h n⟩
      | false => refine iteF ?_; exact ⟨pr, ph', s, S1, rs.next n o, o', Post.from h n⟩
/-- an expression as a test, by its value -/
def plainT : Expr → Bool
  | .UnaryOp .Not .. => false | .BoolOp .. => false | .IfExp .. => false | .Compare .. => false | _ => true
theorem plainT_eq {e : Expr} (h : plainT e = true) (env : Env) (wh : Sem Value) : isTrue e env wh = (do let v ← wh; standAt e.pos; holding [v] (truthy v)) := by
  cases e <;> first | rfl | cases h | skip
  rename_i op _ _
  cases op <;> first | rfl | cases h
theorem st_val (ha : SE T cf g a ea) (h : plainT ea = true) : SeT T cf g a ea := fun G X W gd =>
  (pt_val (ha G X W gd) fun wh => plainT_eq h X.env wh).imp fun σ H Q h => tT_of h

/-! ### argument lists -/
variable {cs : List E} {es : List Expr}
theorem ses_nil : SEs T cf g [] [] := fun G X W gd => pa_nil.imp fun σ H Q ⟨pr, ph, s, S, rs, o, h⟩ => by
  simp only [evalEs] at h
  exact Post.ok h o .nil
theorem ses_cons (ha : SE T cf g a ea) (hs : starB ea = false) (hr : SEs T cf g cs es) : SEs T cf g (a :: cs) (ea :: es) := fun G X W gd =>
  (pa_cons (ha G X W gd) (hr G X W gd) (star_cons hs es X.env)).imp fun σ H Q ⟨pr, ph, s, S, rs, o, h⟩ => by
    simp only [evalEs] at h
    refine ⟨pr, ph, s, S, rs, o, h.seq.imp fun v H1 ⟨ph1, S1, d, n1, o1, rd, _, h1⟩ => ?_⟩
    refine ⟨pr, ph1, s, S1, rs.next n1 o, o1, (h1.seq (Ra := (G.wp pr).RDs)).imp fun vs H2 ⟨ph2, S2, ds, n2, o2, rds, _, h2⟩ => ?_⟩
    exact Post.ok h2 o2 (.cons (rd.next n2 o1) rds)

/-! ### and, or -/
theorem se_and1 (ha : SE T cf g a ea) : SE T cf g (.and [a]) (.BoolOp .And [ea] pos) := fun G X W gd => (pe_one (ha G X W gd)).imp fun σ H Q ⟨pr, ph, s, S, rs, o, h⟩ => ⟨pr, ph, s, S, rs, o, by simpa only [evalE, evalAnd] using h⟩
theorem se_or1 (ha : SE T cf g a ea) : SE T cf g (.or [a]) (.BoolOp .Or [ea] pos) := fun G X W gd => (pe_one (ha G X W gd)).imp fun σ H Q ⟨pr, ph, s, S, rs, o, h⟩ => ⟨pr, ph, s, S, rs, o, by simpa only [evalE, evalOr] using h⟩
theorem se_and {b : E} {eb : Expr} (ha : SE T cf g a ea) (hr : SE T cf g (.and (b :: cs)) (.BoolOp .And (eb :: es) pos)) : SE T cf g (.and (a :: b :: cs)) (.BoolOp .And (ea :: eb :: es) pos) := fun G X W gd =>
  (pe_and (ha G X W gd) (hr G X W gd)).imp fun σ H Q ⟨pr, ph, s, S, rs, o, h⟩ => by
    simp only [evalE, evalAnd] at h
    refine ⟨pr, ph, s, S, rs, o, h.seq.imp fun v H1 ⟨ph1, S1, d, n1, o1, rd, _, h1⟩ => ?_⟩
    obtain ⟨k, e1, e2⟩ := blOf rd (fun hn => by cases rd <;> first | exact h1.elim | exact hn _ rfl)
    subst e1 e2
    refine ⟨k, rfl, ?_⟩
    cases k with
    | true => refine iteT ?_; exact ⟨pr, ph1, s, S1, rs.next n1 o, o1, by simpa only [evalE] using h1⟩
    | false => refine iteF ?_; exact h1.val o1 (.bl false)
theorem se_or {b : E} {eb : Expr} (ha : SE T cf g a ea) (hr : SE T cf g (.or (b :: cs)) (.BoolOp .Or (eb :: es) pos)) : SE T cf g (.or (a :: b :: cs)) (.BoolOp .Or (ea :: eb :: es) pos) := fun G X W gd =>
  (pe_or (ha G X W gd) (hr G X W gd)).imp fun σ H Q ⟨pr, ph, s, S, rs, o, h⟩ => by
    simp only [evalE, evalOr] at h
    refine ⟨pr, ph, s, S, rs, o, h.seq.imp fun v H1 ⟨ph1, S1, d, n1, o1, rd, _, h1⟩ => ?_⟩
    obtain ⟨k, e1, e2⟩ := blOf rd (fun hn => by cases rd <;> first | exact h1.elim | exact hn _ rfl)
    subst e1 e2
    refine ⟨k, rfl, ?_⟩
    cases k with
    | true => refine iteT ?_; exact h1.val o1 (.bl true)
    | false => refine iteF ?_; exact ⟨pr, ph1, s, S1, rs.next n1 o, o1, by simpa only [evalE] using h1⟩
section
variable (T cf g)
/-- as a test -/
def SeW (c : E) (e : Expr) : Prop := ∀ (G : Glb) (X : Cx) (W : WX), Good G T cf g X W → PW X e (tT G cf W c)
end
theorem SeW.t (h : SeW T cf g a ea) : SeT T cf g a ea := fun G X W gd => (h G X W gd).pt
theorem sw_and1 (ha : SeT T cf g a ea) : SeW T cf g (.and [a]) (.BoolOp .And [ea] pos) := fun G X W gd => (pw_and1 (ha G X W gd)).imp fun σ H Q ⟨pr, ph, s, S, rs, o, h⟩ => ⟨pr, ph, s, S, rs, o, by simpa only [evalE, evalAnd] using h⟩
theorem sw_or1 (ha : SeT T cf g a ea) : SeW T cf g (.or [a]) (.BoolOp .Or [ea] pos) := fun G X W gd => (pw_or1 (ha G X W gd)).imp fun σ H Q ⟨pr, ph, s, S, rs, o, h⟩ => ⟨pr, ph, s, S, rs, o, by simpa only [evalE, evalOr] using h⟩
theorem sw_and {b : E} {eb : Expr} (ha : SeT T cf g a ea) (hr : SeW T cf g (.and (b :: cs)) (.BoolOp .And (eb :: es) pos)) : SeW T cf g (.and (a :: b :: cs)) (.BoolOp .And (ea :: eb :: es) pos) := fun G X W gd =>
  (pw_and (ha G X W gd) (hr G X W gd)).imp fun σ H Q ⟨pr, ph, s, S, rs, o, h⟩ => by
    simp only [evalE, evalAnd] at h
    refine ⟨pr, ph, s, S, rs, o, ?_⟩
    cases r : evalE cf a s S with
    | no => rw [r] at h; exact h.elim
    | ex c pl S1 => rw [r] at h; exact h
    | ok d S1 =>
      rw [r] at h
      cases d <;> first | exact h.elim | skip
      rename_i k
      refine fun ph' H' k' n o' e => ?_
      have e : k = k' := e
      subst e
      cases k with
      | true => refine iteT ?_; exact ⟨pr, ph', s, S1, rs.next n o, o', Post.from (by simp only [evalE]; exact h) n⟩
      | false => refine iteF ?_; exact h ph' H' false n o' rfl
theorem sw_or {b : E} {eb : Expr} (ha : SeT T cf g a ea) (hr : SeW T cf g (.or (b :: cs)) (.BoolOp .Or (eb :: es) pos)) : SeW T cf g (.or (a :: b :: cs)) (.BoolOp .Or (ea :: eb :: es) pos) := fun G X W gd =>
  (pw_or (ha G X W gd) (hr G X W gd)).imp fun σ H Q ⟨pr, ph, s, S, rs, o, h⟩ => by
    simp only [evalE, evalOr] at h
    refine ⟨pr, ph, s, S, rs, o, ?_⟩
    cases r : evalE cf a s S with
    | no => rw [r] at h; exact h.elim
    | ex c pl S1 => rw [r] at h; exact h
    | ok d S1 =>
      rw [r] at h
      cases d <;> first | exact h.elim | skip
      rename_i k
      refine fun ph' H' k' n o' e => ?_
      have e : k = k' := e
      subst e
      cases k with
      | true => refine iteT ?_; exact h ph' H' true n o' rfl
      | false => refine iteF ?_; exact ⟨pr, ph', s, S1, rs.next n o, o', Post.from (by simp only [evalE]; exact h) n⟩
end
end DI
end
section
set_option maxRecDepth 100000
set_option maxHeartbeats 1000000
/-! DI6: calls, displays, subscripts, methods, membership. -/
namespace DI
open PySem PySem.Spec PyProof.Rows L2

section
variable {T : Tab} {cf : Nat → List D → Store → R D} {g : Gam} {G : Glb} {X : Cx} {W : WX} {pos p p2 q : Pos} {x : Str} {a b c : E} {ea eb ec : Expr} {cs : List E} {es : List Expr}

theorem tEs_mono {cs : List E} : ∀ (σ : L2.St) (H : Hp) (Q Q' : List V → Hp → Prop), (∀ v H, Q v H → Q' v H) → tEs G cf W cs σ H Q → tEs G cf W cs σ H Q' := fun σ H Q Q' hq ⟨pr, ph, s, S, rs, o, h⟩ => ⟨pr, ph, s, S, rs, o, h.imp hq⟩
/-- a def of the module -/
theorem se_call {f : Nat} (h1 : T.defs.lookup x = some f) (h2 : glB g.sc x = true) (h3 : okN x = true) (hs : starB ea = false) (hes : es.all (fun e => !starB e) = true) (ha : SEs T cf g cs (ea :: es)) : SE T cf g (.call f cs) (.Call (.Name x p) (ea :: es) [] pos) := fun G X W gd => by
  obtain ⟨ad, q1, q2⟩ := gd.tab.defs x f h1
  obtain ⟨k, fd, ps, hr, F, hk, hb⟩ := gd.calls f ad q1
  have F' : FnOk X.prog X.w X.K X.mg X.base (L2.CX X.prog X.w) k ad fd ps (spI G cf f) := by rw [gd.prog, gd.w, gd.K, gd.mg, gd.base]; exact F
  refine (pe_callSD (dvs := []) (E := WE W) F' hr (gd.gl h2) (by rw [gd.mg]; exact q2) (by rw [gd.K]; exact hk) (by rw [gd.K]; exact hb) .nil (fun σ => passAt gd.tk σ) (ha G X W gd) (okN1 h3) (star_cons hs es X.env) (by rw [back_any]; exact star_none X.env hes)).imp fun σ H Q ⟨pr, ph, s, S, rs, o, h⟩ => ?_
  simp only [evalE] at h
  refine ⟨pr, ph, s, S, rs, o, (h.seq (Ra := (G.wp pr).RDs)).imp fun vs H1 ⟨ph1, S1, ds, n1, o1, rds, _, h1⟩ => ?_⟩
  refine ⟨pr, ph1, S1, ds, o1, by rw [List.append_nil]; exact rds, ?_⟩
  cases r : cf f ds S1 with
  | ok d S2 => rw [r] at h1; exact h1
  | ex c pl S2 => rw [r] at h1; exact h1
  | no => rw [r] at h1; exact h1
/-- a local that holds a def -/
theorem se_cllv {i : Nat} (h1 : g.N[i]? = some x) (h2 : visB g.sc x = true) (h3 : okN x = true) (hs : starB ea = false) (hes : es.all (fun e => !starB e) = true) (ha : SEs T cf g cs (ea :: es)) : SE T cf g (.cllv i cs) (.Call (.Name x p) (ea :: es) [] pos) := fun G X W gd => by
  refine ⟨fun pins s0 σ H Q I h => ?_⟩
  obtain ⟨pr, ph, s, S, rs, o, h⟩ := h
  simp only [evalE] at h
  split at h
  · rename_i f e
    obtain ⟨v, e1, rv⟩ := rs.at_ i _ e
    cases rv with
    | @fn _ ad q1 =>
      obtain ⟨k, fd, ps, hr, F, hk, hb⟩ := gd.calls f ad q1
      have F' : FnOk X.prog X.w X.K X.mg X.base (L2.CX X.prog X.w) k ad fd ps (spI G cf f) := by rw [gd.prog, gd.w, gd.K, gd.mg, gd.base]; exact F
      refine wpAny_Call_Name_kw ?_
      refine thn ((pe_var (pos := p) (gd.ix h1) (gd.vis h2) (okN1 h3) (okN2 h3)).run pins s0 σ H (fun v H1 => v = .ref ad ∧ H1 = H) I ⟨_, e1, rfl, rfl⟩) fun u s1 ⟨v, H1, I1, r1, ev, eH⟩ => ?_
      subst ev eH
      obtain rfl : u = Value.ref ad := r1
      refine PySem.W.callWith_K (h₀ := X.base) I1.ok.mod.kin (by rw [gd.K]; exact hk) (thn ((ha G X W gd).run pos pins s1 σ H1 _ I1 ⟨pr, ph, s, S, rs, o, (h.seq (Ra := (G.wp pr).RDs))⟩) fun us s2 ⟨vs, H2, I2, r, ph1, S1, ds, n1, o1, rds, _, h1⟩ => ⟨I2.kIn, ?_⟩) (star_cons hs es X.env) (by rw [back_any]; exact star_none X.env hes)
      refine run_fnSD (dvs := []) (E := WE W) F' hr (by rw [gd.K]; exact hb) .nil (passAt gd.tk σ) I2 r ⟨pr, ph1, S1, ds, o1, by rw [List.append_nil]; exact rds, ?_⟩
      cases r : cf f ds S1 with
      | ok d S2 => rw [r] at h1; exact h1
      | ex c pl S2 => rw [r] at h1; exact h1
      | no => rw [r] at h1; exact h1
  · exact h.elim

/-! ### built-in functions -/
def biN : Bi → String
  | .abs => "abs" | .len => "len" | .all => "all" | .any => "any" | .sum => "sum" | .int => "int" | .tuple => "tuple" | .list => "list" | .lenset => "len"
theorem CallR.wp {f : Value} {r : List Addr → List V → Hp → VK → Prop} (h : ∀ pr, CallR X f (r pr)) : CallR X f (fun vs H Q => ∃ pr, r pr vs H Q) :=
  fun pins s σ H xs us Q I r ⟨pr, q⟩ => h pr pins s σ H xs us Q I r q
theorem tOne {r : List V → Hp → VK → Prop} {σ : L2.St} {H : Hp} {Q : VK} (h : tE G cf W a σ H fun v H1 => r [v] H1 Q) : tCB r (tCons (tE G cf W a) tNil) σ H Q := h
def bltB (T : Tab) (sc : Scope) (x : Str) : Bool := decide (x ∈ T.bltn) && glB sc x && okN x
theorem Good.blt (gd : Good G T cf g X W) (h : bltB T g.sc x = true) : Gl X x ∧ X.mg x = none ∧ okN x = true := by
  unfold bltB at h
  simp only [Bool.and_eq_true, decide_eq_true_eq] at h
  exact ⟨gd.gl h.1.2, by rw [gd.mg]; exact gd.tab.bltn x h.1.1, h.2⟩
theorem se_bi {bb : Bi} (hx : x = Str.ofString (biN bb)) (hb : bb ≠ .list ∧ bb ≠ .lenset) (hbl : bltB T g.sc x = true) (ha : SE T cf g a ea) (hs : starB ea = false) : SE T cf g (.bi bb a) (.Call (.Name x p) [ea] [] pos) := fun G X W gd => by
  obtain ⟨h1, h2, h3⟩ := gd.blt hbl
  have hC : CallR X (biV bb) (fun vs H Q => ∃ pr, rB1 (G.wp pr) bb vs H Q) := CallR.wp fun pr => callR_bi (G := G.wp pr) gd.K gd.calm bb
  have fin : ∀ σ H Q, tE G cf W (.bi bb a) σ H Q → tCB (fun vs H Q => ∃ pr, rB1 (G.wp pr) bb vs H Q) (tCons (tE G cf W a) tNil) σ H Q := fun σ H Q ⟨pr, ph, s, S, rs, o, h⟩ => by
    simp only [evalE] at h
    exact ⟨pr, ph, s, S, rs, o, h.seq.imp fun v H1 ⟨ph1, S1, d, n1, o1, rd, _, h1⟩ => ⟨pr, v, rfl, ph1, S1, d, σ, W, o1, rd, h1⟩⟩
  have e0 := star_cons hs [] X.env
  cases bb with
  | abs => exact (pe_callB hC h1 h2 (by rw [hx]; decide +kernel) (pa_cons (ha G X W gd) pa_nil e0) (okN3 h3) (okN1 h3) e0 rfl).imp fin
  | len => exact (pe_callB hC h1 h2 (by rw [hx]; decide +kernel) (pa_cons (ha G X W gd) pa_nil e0) (okN3 h3) (okN1 h3) e0 rfl).imp fin
  | all => exact (pe_callB hC h1 h2 (by rw [hx]; decide +kernel) (pa_cons (ha G X W gd) pa_nil e0) (okN3 h3) (okN1 h3) e0 rfl).imp fin
  | any => exact (pe_callB hC h1 h2 (by rw [hx]; decide +kernel) (pa_cons (ha G X W gd) pa_nil e0) (okN3 h3) (okN1 h3) e0 rfl).imp fin
  | sum => exact (pe_callB hC h1 h2 (by rw [hx]; decide +kernel) (pa_cons (ha G X W gd) pa_nil e0) (okN3 h3) (okN1 h3) e0 rfl).imp fin
  | int => exact (pe_callTy hC h1 h2 (by rw [hx]; decide +kernel) (pa_cons (ha G X W gd) pa_nil e0) (okN3 h3) (okN1 h3) e0 rfl).imp fin
  | tuple => exact (pe_callTy hC h1 h2 (by rw [hx]; decide +kernel) (pa_cons (ha G X W gd) pa_nil e0) (okN3 h3) (okN1 h3) e0 rfl).imp fin
  | list => exact absurd rfl hb.1
  | lenset => exact absurd rfl hb.2

/-- list(x) -/
theorem se_lof {t : Bool} (hx : x = Str.ofString "list") (hbl : bltB T g.sc x = true) (ha : SE T cf g a ea) (hs : starB ea = false) : SE T cf g (.lof t a) (.Call (.Name x p) [ea] [] pos) := fun G X W gd => by
  obtain ⟨h1, h2, h3⟩ := gd.blt hbl
  have e0 := star_cons hs [] X.env
  refine (pe_callTy call_list_of h1 h2 (by rw [hx]; decide +kernel) (pa_cons (ha G X W gd) pa_nil e0) (okN3 h3) (okN1 h3) e0 rfl).imp fun σ H Q ⟨pr, ph, s, S, rs, o, h⟩ => ?_
  simp only [evalE] at h
  refine ⟨pr, ph, s, S, rs, o, h.seq.imp fun v H1 ⟨ph1, S1, d, n1, o1, rd, _, h1⟩ => ?_⟩
  obtain ⟨ds, e, h1⟩ := h1.opt
  obtain ⟨ad, vs, rfl, q, w⟩ := rd.items o1 e
  exact ⟨ad, vs, rfl, by rw [gd.K]; exact q, (h1.mk o1 w).2⟩

/-! ### len(set(xs)) -/
theorem dedup_first (f : Nat → Int) : ∀ (n i : Nat), dedup (PyProof.Rows.firstMet f i) ((List.range' i n).map f) = PyProof.Rows.firstMet f (i + n)
  | 0, i => rfl
  | n + 1, i => by
    rw [List.range'_succ, List.map_cons]
    have e := PyProof.Rows.firstMet_succ f i
    unfold PyProof.Rows.step_dedup at e
    unfold dedup
    by_cases h : (PyProof.Rows.firstMet f i).any (· == f i) = true
    · rw [if_pos h]
      rw [if_pos h] at e
      rw [← e, dedup_first f n (i + 1)]
      congr 1; omega
    · rw [if_neg h]
      rw [if_neg h] at e
      rw [← e, dedup_first f n (i + 1)]
      congr 1; omega
theorem dedup_eq (ns : List Int) : dedup [] ns = PyProof.Rows.firstMet (fun i => ns.getD i 0) ns.length := by
  have h := dedup_first (fun i => ns.getD i 0) ns.length 0
  rw [Nat.zero_add] at h
  have e : (List.range' 0 ns.length).map (fun i => ns.getD i 0) = ns := by
    apply List.ext_getElem
    · simp
    · intro i h1 h2
      simp at h1
      simp [h2]
  rw [e] at h
  exact h
theorem se_lset (hx : x = Str.ofString "len") (hbl : bltB T g.sc x = true) {y : Str} (hy : y = Str.ofString "set") (hbl2 : bltB T g.sc y = true) (ha : SE T cf g a ea) (hs : starB ea = false) : SE T cf g (.lset a) (.Call (.Name x p) [.Call (.Name y p2) [ea] [] q] [] pos) := fun G X W gd => by
  obtain ⟨h1, h2, h3⟩ := gd.blt hbl
  obtain ⟨k1, k2, k3⟩ := gd.blt hbl2
  subst hx hy
  have na := star_cons hs [] X.env
  refine ⟨fun pins s0 σ H Q I h => ?_⟩
  obtain ⟨pr, ph, s, S, rs, o, h⟩ := h
  simp only [evalE] at h
  refine Call_ (ld_blt I h1 h2 boot_len ?_)
  refine PyProof.Rows.callWith_builtin1 (PyProof.Rows.args_cons ?_ rfl) rfl rfl
  refine Call_ (ld_blt I k1 k2 boot_set ?_)
  refine PyProof.Rows.callWith_type1 (PyProof.Rows.args_cons (thn ((ha G X W gd).run pins s0 σ H _ I ⟨pr, ph, s, S, rs, o, h.seq⟩) fun v s1 ⟨x, H1, I1, r1, ph1, S1, d, n1, o1, rd, _, q1⟩ => PyProof.Rows.args_nil ?_) na) na rfl
  obtain ⟨ns, e, q1⟩ := q1.opt
  obtain ⟨ds, e1, e2⟩ := Option.bind_eq_some_iff.mp e
  obtain ⟨l, vs, rfl, hq, w⟩ := rd.list o1 e1
  have e3 := ints?_eq e2
  subst e3
  have e4 := w.ints
  subst e4
  split at q1
  · rename_i hl
    cases r1
    have hq : SqL X.K H1 l (ns.map V.int) := by rw [gd.K]; exact hq
    obtain ⟨its, r, pl, hz⟩ := I1.list hq
    have hlen : its.toArray.size = ns.length := by rw [List.size_toArray, ← r.length, List.length_map]
    refine call_set_list (I1.ok.hd gd.calm) pl.isList (by simpa using r.ints) (by rw [hlen]; unfold scanBound; omega) fun h' tk hS hk => ?_
    refine PyProof.Rows.args_nil ?_
    rw [hlen, ← dedup_eq] at hS
    obtain ⟨ob, es, ep, t, ho, hex, hd, _, _, _, hf, hn⟩ := hS
    have I2 : L2.Inv X pins σ H1 { s1 with heap := h', toks := tk } := I1.kept fun b o e => hk b o (Heap.lt_size e) e
    have hle : (dedup [] ns).length ≤ ns.length := by
      have key : ∀ (l acc : List Int), (dedup acc l).length ≤ acc.length + l.length := by
        intro l
        induction l with
        | nil => intro acc; simp [dedup]
        | cons x l ih =>
          intro acc
          unfold dedup
          split
          · have := ih acc; simp; omega
          · have := ih (acc ++ [x]); simp at this ⊢; omega
      simpa using key ns []
    exact call_len_set ho hex hd hf (by rw [hn] <;> omega) ⟨.int (dedup [] ns).length, H1, I2.tok _, ⟨_, by rw [hn]⟩, q1.val o1 (.int _)⟩
  · exact q1.elim

/-! ### isinstance -/
def tyOfN (x : Str) : Option Ty :=
  if x = Str.ofString "int" then some .int else if x = Str.ofString "bool" then some .bool else if x = Str.ofString "str" then some .str else if x = Str.ofString "tuple" then some .tuple else if x = Str.ofString "list" then some .list else none
theorem tyOfN_eq {x : Str} {t : Ty} (h : tyOfN x = some t) : x = Str.ofString (tyN t) := by
  unfold tyOfN at h
  repeat' split at h
  all_goals first | (cases h; done) | (cases h; assumption)
theorem boot_ty (t : Ty) : bootBuiltins (Str.ofString (tyN t)) = some (.type (tyN t)) := by cases t <;> decide +kernel
theorem pe_ty {x : Str} {t : Ty} (gd : Good G T cf g X W) (h : tyOfN x = some t) (hbl : bltB T g.sc x = true) : PE X (.Name x p) (tC (.ty (tyN t))) := by
  obtain ⟨h1, h2, h3⟩ := gd.blt hbl
  exact pe_bltn h1 h2 (by rw [tyOfN_eq h]; exact boot_ty t) rfl (okN3 h3) (okN1 h3)
theorem se_isi {y : Str} {t : Ty} (hx : x = Str.ofString "isinstance") (hbl : bltB T g.sc x = true) (hy : tyOfN y = some t) (hbl2 : bltB T g.sc y = true) (ha : SE T cf g a ea) (hs : starB ea = false) : SE T cf g (.isi a [t]) (.Call (.Name x p) [ea, .Name y p2] [] pos) := fun G X W gd => by
  obtain ⟨h1, h2, h3⟩ := gd.blt hbl
  have e0 := star_cons hs [.Name y p2] X.env
  refine (pe_callB (CallR.wp fun pr => callR_isi (G := G.wp pr) (ts := [t]) gd.K) h1 h2 (by rw [hx]; decide +kernel) (pa_cons (ha G X W gd) (pa_cons (pe_ty gd hy hbl2) pa_nil rfl) e0) (okN3 h3) (okN1 h3) e0 rfl).imp fun σ H Q ⟨pr, ph, s, S, rs, o, h⟩ => ?_
  simp only [evalE] at h
  refine ⟨pr, ph, s, S, rs, o, h.seq.imp fun v H1 ⟨ph1, S1, d, n1, o1, rd, _, q1⟩ => ?_⟩
  obtain ⟨b, e, q1⟩ := q1.opt
  exact ⟨pr, v, _, ph1, S1, d, b, rfl, o1, rd, e, .inl ⟨t, rfl, rfl⟩, q1.val o1 (.bl b)⟩
/-- the names of the types of a written tuple -/
def tysOf (T : Tab) (sc : Scope) : List Ty → List Expr → Bool
  | [], [] => true
  | t :: ts, .Name y _ :: es => decide (tyOfN y = some t) && bltB T sc y && tysOf T sc ts es
  | _, _ => false
theorem pa_tys (gd : Good G T cf g X W) : ∀ {ts : List Ty} {es : List Expr}, tysOf T g.sc ts es = true → ∃ t, PA X es t ∧ ∀ σ H Q, Q (ts.map fun t => V.ty (tyN t)) H → t σ H Q
  | [], [], _ => ⟨_, pa_nil, fun σ H Q q => q⟩
  | t :: ts, .Name y p :: es, h => by
    simp only [tysOf, Bool.and_eq_true, decide_eq_true_eq] at h
    obtain ⟨tr, h1, h2⟩ := pa_tys gd h.2
    exact ⟨_, pa_cons (pe_ty gd h.1.1 h.1.2) h1 rfl, fun σ H Q q => h2 _ _ _ q⟩
  | [], _ :: _, h => by simp [tysOf] at h
  | _ :: _, [], h => by simp [tysOf] at h
  | _ :: _, e :: _, h => by
    cases e <;> first | (simp [tysOf] at h; done) | skip
    rename_i ts _ y p
    simp only [tysOf, Bool.and_eq_true, decide_eq_true_eq] at h
    obtain ⟨tr, h1, h2⟩ := pa_tys gd h.2
    exact ⟨_, pa_cons (pe_ty gd h.1.1 h.1.2) h1 rfl, fun σ H Q q => h2 _ _ _ q⟩
theorem se_isiT {t : Ty} {ts : List Ty} {kk : Nat} (hx : x = Str.ofString "isinstance") (hbl : bltB T g.sc x = true) (hy : tysOf T g.sc (t :: ts) es = true) (hn : ts.length < 100) (ha : SE T cf g a ea) (hs : starB ea = false) : SE T cf g (.isi a (t :: ts)) (.Call (.Name x p) [ea, .Tuple es kk p2] [] pos) := fun G X W gd => by
  obtain ⟨h1, h2, h3⟩ := gd.blt hbl
  have e0 := star_cons hs [.Tuple es kk p2] X.env
  obtain ⟨tr, ht, hq⟩ := pa_tys gd hy
  refine (pe_callB (CallR.wp fun pr => callR_isi (G := G.wp pr) (ts := t :: ts) gd.K) h1 h2 (by rw [hx]; decide +kernel) (pa_cons (ha G X W gd) (pa_cons (pe_tup ht) pa_nil rfl) e0) (okN3 h3) (okN1 h3) e0 rfl).imp fun σ H Q ⟨pr, ph, s, S, rs, o, h⟩ => ?_
  simp only [evalE] at h
  refine ⟨pr, ph, s, S, rs, o, h.seq.imp fun v H1 ⟨ph1, S1, d, n1, o1, rd, _, q1⟩ => ?_⟩
  obtain ⟨b, e, q1⟩ := q1.opt
  refine hq _ _ _ ⟨by simp [sizeLine_eq]; omega, fun pp hp => ?_⟩
  exact ⟨pr, v, _, ph1, S1, d, b, rfl, o1.laid hp, rd.next (Nxt.laid hp) o1, e, .inr ⟨by simp, pp, rfl, upd_same⟩, q1.ok' (Nxt.laid hp) (o1.laid hp) (.bl b)⟩

/-! ### displays -/
theorem se_tup {kk : Nat} (ha : SEs T cf g cs es) : SE T cf g (.tup cs) (.Tuple es kk pos) := fun G X W gd => (pe_tup (ha G X W gd)).imp fun σ H Q ⟨pr, ph, s, S, rs, o, h⟩ => by
  simp only [evalE] at h
  exact ⟨pr, ph, s, S, rs, o, (h.seq (Ra := (G.wp pr).RDs)).imp fun vs H1 ⟨ph1, S1, ds, n1, o1, rds, _, h1⟩ => h1.mkT o1 rds⟩
theorem se_lst {t : Bool} (ha : SEs T cf g cs es) : SE T cf g (.lst t cs) (.List es pos) := fun G X W gd => (pe_lst (ha G X W gd)).imp fun σ H Q ⟨pr, ph, s, S, rs, o, h⟩ => by
  simp only [evalE] at h
  exact ⟨pr, ph, s, S, rs, o, (h.seq (Ra := (G.wp pr).RDs)).imp fun vs H1 ⟨ph1, S1, ds, n1, o1, rds, _, h1⟩ => h1.mk o1 rds⟩

/-! ### subscripts, slices -/
def sliceB : Expr → Bool
  | .Slice .. => true | _ => false
theorem plainIx {e : Expr} (h : sliceB e = false) : PlainIx e := by
  cases e <;> first | (intro _ _; rfl) | cases h
theorem se_ix (ha : SE T cf g a ea) (hb : SE T cf g b eb) (hm : sliceB eb = false) : SE T cf g (.ix a b) (.Subscript ea eb pos) := fun G X W gd =>
  (pe_ix (r := fun x y H Q => ∃ pr, rO (G.wp pr) ixD x y H Q) (fun v sl pins s σ H x y v' u Q I rx ry ⟨pr, q⟩ => ixR_ix (G := G.wp pr) gd.K v sl pins s σ H x y v' u Q I rx ry q) (ha G X W gd) (hb G X W gd) (plainIx hm)).imp fun σ H Q ⟨pr, ph, s, S, rs, o, h⟩ => tOp_of tE_mono tE_mono (two rs o (by simp only [evalE] at h; exact h))
/-- a slice's part -/
def tO (G : Glb) (cf : Nat → List D → Store → R D) (W : WX) (c : Option E) : TO := fun σ H Q => ∃ pr ph s S, (G.wp pr).RSl ph H s σ ∧ (G.wp pr).SOk ph S H ∧ Post (G.wp pr) ph H σ W (fun _ _ a b => a = b) (evalO cf c s S) Q
def SeO (T : Tab) (cf : Nat → List D → Store → R D) (g : Gam) (c : Option E) (e : Option Expr) : Prop := ∀ (G : Glb) (X : Cx) (W : WX), Good G T cf g X W → PO X e (tO G cf W c)
theorem _root_.L2.PO.imp {e : Option Expr} {t t' : TO} (h : PO X e t) (f : ∀ σ H Q, t' σ H Q → t σ H Q) : PO X e t' := ⟨fun pins s σ H Q I q => h.run pins s σ H Q I (f σ H Q q)⟩
theorem so_none : SeO T cf g none none := fun G X W gd => po_none.imp fun σ H Q ⟨pr, ph, s, S, rs, o, h⟩ => Post.ok (a := none) (by simpa only [evalO] using h) o rfl
theorem so_some (ha : SE T cf g a ea) : SeO T cf g (some a) (some ea) := fun G X W gd => (po_some (ha G X W gd)).imp fun σ H Q ⟨pr, ph, s, S, rs, o, h⟩ => by
  simp only [evalO] at h
  refine ⟨pr, ph, s, S, rs, o, h.seq.imp fun v H1 ⟨ph1, S1, d, n1, o1, rd, _, h1⟩ => ?_⟩
  cases rd <;> first | exact h1.elim | skip
  exact ⟨_, rfl, Post.ok h1 o1 rfl⟩
theorem se_sl {lo hi : Option E} {elo ehi : Option Expr} (ha : SE T cf g a ea) (hl : SeO T cf g lo elo) (hh : SeO T cf g hi ehi) : SE T cf g (.sl a lo hi) (.Subscript ea (.Slice elo ehi none p2) pos) := fun G X W gd =>
  (pe_slice (r := fun x lo hi H Q => ∃ pr, rU1 (G.wp pr) (fun d S => slD d lo hi S) x H Q) (fun pins s σ H x v vl vu lo hi sl Q I rx hs pl pu ⟨pr, q⟩ => slR_sl (G := G.wp pr) gd.K pins s σ H x v vl vu lo hi sl Q I rx hs pl pu q) (ha G X W gd) (hl G X W gd) (hh G X W gd)).imp fun σ H Q ⟨pr, ph, s, S, rs, o, h⟩ => by
    simp only [evalE] at h
    refine ⟨pr, ph, s, S, rs, o, h.seq.imp fun v H1 ⟨ph1, S1, d, n1, o1, rd, _, h1⟩ => ?_⟩
    refine ⟨pr, ph1, s, S1, rs.next n1 o, o1, (h1.seq (Ra := fun _ _ a b => a = b)).imp fun l H2 ⟨ph2, S2, l', n2, o2, el, _, h2⟩ => ?_⟩
    have el : l' = l := el
    subst el
    refine ⟨pr, ph2, s, S2, (rs.next n1 o).next n2 o1, o2, (h2.seq (Ra := fun _ _ a b => a = b)).imp fun u H3 ⟨ph3, S3, u', n3, o3, eu, _, h3⟩ => ?_⟩
    have eu : u' = u := eu
    subst eu
    exact ⟨pr, ph3, S3, d, σ, W, o3, (rd.next n2 o1).next n3 o2, h3⟩

/-! ### membership -/
theorem flat_rd {K : PySem.W.Frag} {fa pr ph : List Addr} {H : Hp} {d : D} {v : V} (r : DI.RD K fa pr ph H d v) (h : flatD d = true) : flatV v = true := by
  cases r <;> first | rfl | cases h
theorem flats_rd {K : PySem.W.Frag} {fa pr ph : List Addr} {H : Hp} : ∀ {ds : List D} {vs : List V}, DI.RDs K fa pr ph H ds vs → ds.all flatD = true → vs.all flatV = true
  | _, _, .nil, _ => rfl
  | _, _, .cons r w, h => by
    simp only [List.all_cons, Bool.and_eq_true] at h ⊢
    exact ⟨flat_rd r h.1, flats_rd w h.2⟩
theorem eqF_eqV {K : PySem.W.Frag} {fa pr ph : List Addr} {H : Hp} {d e : D} {v u : V} (r : DI.RD K fa pr ph H d v) (q : DI.RD K fa pr ph H e u) (h1 : flatD d = true) (h2 : flatD e = true) : eqV v u = eqF d e := by
  cases r <;> first | (cases h1; done) | skip
  all_goals cases q <;> first | (cases h2; done) | rfl | skip
  rename_i cs cs'
  show ((⟨cs.toArray⟩ : Str) == ⟨cs'.toArray⟩) = (cs == cs')
  rw [Bool.eq_iff_iff]
  simp
theorem inF_inV {K : PySem.W.Frag} {fa pr ph : List Addr} {H : Hp} {d : D} {v : V} (r : DI.RD K fa pr ph H d v) (h : flatD d = true) : ∀ {ds : List D} {vs : List V}, DI.RDs K fa pr ph H ds vs → ds.all flatD = true → inV v vs = ds.any (eqF · d)
  | _, _, .nil, _ => rfl
  | _, _, .cons q w, h2 => by
    simp only [List.all_cons, Bool.and_eq_true] at h2
    have ih := inF_inV r h w h2.2
    unfold inV at ih ⊢
    rw [List.any_cons, List.any_cons, ih, eqF_eqV q r h2.1 h]
theorem se_in {ng : Bool} (ha : SE T cf g a ea) (hb : SE T cf g b eb) (hm : setB eb = false) : SE T cf g (.isIn ng a b) (.Compare ea [if ng then .NotIn else .In] [eb] pos) := fun G X W gd => by
  have fin : ∀ σ H Q, tE G cf W (.isIn ng a b) σ H Q → tOp (rIn X.K ng) (tE G cf W a) (tE G cf W b) σ H Q := fun σ H Q ⟨pr, ph, s, S, rs, o, h⟩ => by
    simp only [evalE] at h
    refine ⟨pr, ph, s, S, rs, o, h.seq.imp fun v H1 ⟨ph1, S1, d, n1, o1, rd, _, h1⟩ => ?_⟩
    refine ⟨pr, ph1, s, S1, rs.next n1 o, o1, h1.seq.imp fun v2 H2 ⟨ph2, S2, d2, n2, o2, rd2, _, h2⟩ => ?_⟩
    obtain ⟨ds, e, h2⟩ := h2.opt
    obtain ⟨ad, vs, rfl, q, w⟩ := rd2.items o2 e
    split at h2
    · rename_i hf
      rw [Bool.and_eq_true] at hf
      have rd' := rd.next n2 o1
      refine ⟨ad, vs, rfl, by rw [gd.K]; exact q, flat_rd rd' hf.1, flats_rd w hf.2, ?_⟩
      rw [inF_inV rd' hf.1 w hf.2]
      exact h2.val o2 (.bl _)
    · exact h2.elim
  cases ng with
  | false => exact (pe_cmpR op_in_seq (ha G X W gd) (hb G X W gd) (mark_none hm .In)).imp fin
  | true => exact (pe_cmpR op_notIn_seq (ha G X W gd) (hb G X W gd) (mark_none hm .NotIn)).imp fin
theorem st_in {ng : Bool} (ha : SE T cf g a ea) (hb : SE T cf g b eb) (hm : setB eb = false) : SeT T cf g (.isIn ng a b) (.Compare ea [if ng then .NotIn else .In] [eb] pos) := fun G X W gd => by
  have fin : ∀ σ H Q, tT G cf W (.isIn ng a b) σ H Q → tTest (tOp (rIn X.K ng) (tE G cf W a) (tE G cf W b)) σ H Q := fun σ H Q h => by
    obtain ⟨pr, ph, s, S, rs, o, h⟩ := tT_of h
    simp only [evalE] at h
    refine ⟨pr, ph, s, S, rs, o, h.seq.imp fun v H1 ⟨ph1, S1, d, n1, o1, rd, _, h1⟩ => ?_⟩
    refine ⟨pr, ph1, s, S1, rs.next n1 o, o1, h1.seq.imp fun v2 H2 ⟨ph2, S2, d2, n2, o2, rd2, _, h2⟩ => ?_⟩
    obtain ⟨ds, e, h2⟩ := h2.opt
    obtain ⟨ad, vs, rfl, q, w⟩ := rd2.items o2 e
    split at h2
    · rename_i hf
      rw [Bool.and_eq_true] at hf
      have rd' := rd.next n2 o1
      refine ⟨ad, vs, rfl, by rw [gd.K]; exact q, flat_rd rd' hf.1, flats_rd w hf.2, ?_⟩
      rw [inF_inV rd' hf.1 w hf.2]
      exact h2.val o2 (.bl _)
    · exact h2.elim
  cases ng with
  | false => exact (pt_cmpR op_in_seq (ha G X W gd) (hb G X W gd) (mark_none hm .In)).imp fin
  | true => exact (pt_cmpR op_notIn_seq (ha G X W gd) (hb G X W gd) (mark_none hm .NotIn)).imp fin
end
end DI
end
section
set_option maxRecDepth 100000
set_option maxHeartbeats 1000000
/-! DI7: x[::-1], methods, what is walked, targets, comprehensions. -/
namespace DI
open PySem PySem.Spec PyProof.Rows L2

/-! ### t[::-1] -/
section
variable {prog : Program} {w : World} {A : Around} {E : Value → Shared → Prop} {s : Shared}
theorem sliceApplied_rev {sl : Addr} {vl vu vs : Value} {n : Nat} {Q : Int × Int × Nat → Shared → Prop} (hs : s.heap.IsSliceOf sl vl vu vs) (pl : IsPart vl none) (pu : IsPart vu none) (ps : IsPart vs (some (-1)))
    (h : Q ((n : Int) - 1, -1, n) s) : wpAny (model prog w) A (Builtin.Slice.sliceApplied (.ref sl) (pure (n : Int))) Q E s := by
  obtain ⟨os, hos, hcs, hds⟩ := id hs
  unfold Builtin.Slice.sliceApplied Builtin.Slice.sliceFields
  refine wpAny_bind (wpAny_bind (wpAny_field hos hds (x := vl) rfl (wpAny_bind (wpAny_field hos hds (x := vu) rfl (wpAny_bind (wpAny_field hos hds (x := vs) rfl (wpAny_pure ?_)))))))
  refine wpAny_bind (HT.slicePart_ ps ?_)
  show wpAny _ _ (if ((-1 : Int) == 0) = true then _ else _) _ _ s
  rw [if_neg (by decide)]
  refine wpAny_bind (HT.slicePart_ pl (wpAny_bind (HT.slicePart_ pu (wpAny_bind (wpAny_pure ?_)))))
  show wpAny _ _ (match Builtin.Slice.sliceAdjust none none (-1) (n : Int) with | (lo, hi) => pure (lo, (-1 : Int), Builtin.Slice.slicePlaces lo hi (-1))) _ _ s
  have e1 : Builtin.Slice.sliceAdjust none none (-1) (n : Int) = ((n : Int) - 1, -1) := by
    unfold Builtin.Slice.sliceAdjust
    simp
  rw [e1]
  show wpAny _ _ (pure ((n : Int) - 1, (-1 : Int), Builtin.Slice.slicePlaces ((n : Int) - 1) (-1) (-1))) _ _ s
  have e2 : Builtin.Slice.slicePlaces ((n : Int) - 1) (-1) (-1) = n := by
    unfold Builtin.Slice.slicePlaces
    have : ¬ ((-1 : Int) > 0) := by omega
    simp only [this, if_false]
    split <;> simp <;> omega
  rw [e2]
  exact wpAny_pure h
theorem pick_rev (xs : Array Value) : ((List.range xs.size).filterMap fun (m : Nat) => xs[(((xs.size : Nat) : Int) - 1 + (m : Int) * (-1)).toNat]?).toArray = xs.toList.reverse.toArray := by
  congr 1
  apply List.ext_getElem?
  intro i
  have key : ∀ m, m < xs.size → xs[(((xs.size : Nat) : Int) - 1 + (m : Int) * (-1)).toNat]? = some (xs[xs.size - 1 - m]?.getD .none) := fun m hm => by
    have e : (((xs.size : Nat) : Int) - 1 + (m : Int) * (-1)).toNat = xs.size - 1 - m := by omega
    rw [e]
    have hl : xs.size - 1 - m < xs.size := by omega
    simp [hl]
  have e : (List.range xs.size).filterMap (fun (m : Nat) => xs[(((xs.size : Nat) : Int) - 1 + (m : Int) * (-1)).toNat]?) = (List.range xs.size).map fun m => xs[xs.size - 1 - m]?.getD .none := by
    have go : ∀ l : List Nat, (∀ m ∈ l, m < xs.size) → l.filterMap (fun (m : Nat) => xs[(((xs.size : Nat) : Int) - 1 + (m : Int) * (-1)).toNat]?) = l.map fun m => xs[xs.size - 1 - m]?.getD .none := by
      intro l
      induction l with
      | nil => intro _; rfl
      | cons m l ih =>
        intro hm
        rw [List.filterMap_cons, key m (hm m List.mem_cons_self), List.map_cons, ih fun y hy => hm y (List.mem_cons_of_mem _ hy)]
    exact go _ fun m hm => List.mem_range.mp hm
  rw [e, List.getElem?_map]
  by_cases hi : i < xs.size
  · rw [List.getElem?_range hi, List.getElem?_reverse (by simpa using hi)]
    have hl : xs.size - 1 - i < xs.size := by omega
    simp [hl]
  · rw [List.getElem?_eq_none (by simpa using hi), List.getElem?_eq_none (by simpa using hi)]; rfl
theorem getItem_tuple_rev {t sl : Addr} {items : Array Value} {vl vu vs : Value} {Q : Value → Shared → Prop} (ht : IsTup s.heap t items) (hs : s.heap.IsSliceOf sl vl vu vs) (pl : IsPart vl none) (pu : IsPart vu none) (ps : IsPart vs (some (-1)))
    (h : Q (.ref s.heap.objs.size) { s with heap := s.heap.push { cls := .type "tuple", data := .seq items.toList.reverse.toArray } })
    (hsz : items.size ≤ sizeLine) : wpAny (model prog w) A (getItem (.ref t) (.ref sl)) Q E s := by
  have htake : sizeOk (.seq items.toList.reverse.toArray) := by
    show items.toList.reverse.toArray.size ≤ sizeLine
    simpa using hsz
  obtain ⟨os, hos, hcs, hds⟩ := id hs
  have hTs : s.TypeIs (.ref sl) "slice" := ⟨os, hos, hcs⟩
  unfold getItem
  try with_reducible refine wpAny_holding ?_
  first | refine wpAny_bind (wpAny_pure ?_) | skip
  refine wpAny_bind (wpAny_sequenceKey ht.typeIs (by decide) ?_)
  refine wpAny_bind (wpAny_callSpecial?_slot (name := Str.ofString "__getitem__") ht.typeIs PyProof.Rows.slot_tuple_getitem
    (wpAny_call_entry PyProof.Rows.slot_tuple_getitem ht.typeIs entry_tuple_getitem ?_ (args_tuple_getitem _ _)))
  show wpAny _ _ (Builtin.Tuple.tupleItemsOf (.ref t) >>= _) _ _ s
  refine wpAny_bind (tupleItemsOf_ ht ?_)
  refine wpAny_bind (wpAny_typeOf hTs ?_)
  rw [if_pos (by decide)]
  refine wpAny_bind (sliceApplied_rev hs pl pu ps ?_)
  show wpAny _ _ (if ((((items.size : Nat) : Int) - 1 == 0 && (-1 : Int) == 1 && items.size == items.size)) = true then _ else _) _ _ s
  rw [if_neg (by simp), pick_rev]
  first
    | exact wpAny_bind (m := Builtin.Tuple.tupleExact _) (wpAny_newObj_type (wpAny_pure ⟨_, rfl, wpAny_pure h⟩) htake)
    | exact wpAny_bind (m := Builtin.Tuple.tupleExact _) (wpAny_newObj_type (wpAny_bind (wpAny_pure (wpAny_pure ⟨_, rfl, wpAny_pure h⟩))) htake)
    | exact wpAny_bind (wpAny_bind (m := Builtin.Tuple.tupleExact _) (wpAny_newObj_type (wpAny_pure (wpAny_pure ⟨_, rfl, wpAny_pure h⟩)) htake))
    | exact wpAny_bind (wpAny_bind (m := Builtin.Tuple.tupleExact _) (wpAny_newObj_type (wpAny_pure ⟨_, rfl, wpAny_pure h⟩) htake))
end
section
variable {T : Tab} {cf : Nat → List D → Store → R D} {g : Gam} {G : Glb} {X : Cx} {W : WX} {pos p p1 p2 p3 q : Pos} {x : Str} {a b c : E} {ea eb ec : Expr} {cs : List E} {es : List Expr} {k : Nat}
theorem se_rev (ha : SE T cf g a ea) : SE T cf g (.rev a) (.Subscript ea (.Slice none none (some (.UnaryOp .USub (.Constant (.int 1) k p1) p2)) p3) pos) := fun G X W gd => by
  refine ⟨fun pins s0 σ H Q I h => ?_⟩
  obtain ⟨pr, ph, s, S, rs, o, h⟩ := h
  simp only [evalE] at h
  refine Subscript_ (thn ((ha G X W gd).run pins s0 σ H _ I ⟨pr, ph, s, S, rs, o, h.seq⟩) fun v s1 ⟨x, H1, I1, r1, ph1, S1, d, n1, o1, rd, _, q1⟩ => ?_)
  have hst : PO X (some (.UnaryOp .USub (.Constant (.int 1) k p1) p2)) (tPart (tUn (rU fun i => .int (-i)) (tC (.int 1)))) := po_some (pe_un un_neg pe_int)
  refine wpAny_Slice (thn (po_none.run pins s1 σ H1 (fun o H2 => o = none ∧ H2 = H1) I1 ⟨rfl, rfl⟩) fun vl s2 ⟨l, H2, I2, pl, el, e2⟩ => ?_)
  subst el e2
  refine thn (po_none.run pins s2 σ H2 (fun o H3 => o = none ∧ H3 = H2) I2 ⟨rfl, rfl⟩) fun vu s3 ⟨u, H3, I3, pu, eu, e3⟩ => ?_
  subst eu e3
  refine thn (hst.run pins s3 σ H3 (fun o H4 => o = some (-1) ∧ H4 = H3) I3 ⟨1, rfl, -1, rfl, rfl, rfl⟩) fun vs s4 ⟨o', H4, I4, ps, eo, e4⟩ => ?_
  subst eo e4
  have I5 : L2.Inv X pins σ H4 { s4 with heap := s4.heap.push { cls := .type "slice", data := .fields #[vl, vu, vs] } } := I4.kept (t' := s4.toks) fun b ob q => Heap.get?_push_of_some _ q
  unfold revD at q1
  split at q1
  · cases rd with
    | @tup ds ad vs' hq w =>
      cases r1
      obtain ⟨its, r, ht, hz⟩ := I5.tuple (show SqT X.K H4 ad vs' by rw [gd.K]; exact hq)
      have hlen := r.length
      show wpAny (model X.prog X.w) X.A (subscriptTail ea (.Slice none none (some (.UnaryOp .USub (.Constant (.int 1) k p1) p2)) p3) (.ref ad) (.ref s4.heap.objs.size)) (EP X pins σ Q) X.xe { s4 with heap := s4.heap.push { cls := .type "slice", data := .fields #[vl, vu, vs] } }
      refine tail_any (ops := [.ref ad, .ref s4.heap.objs.size]) ht.typeIs (PyProof.Rows.slot_tuple_getitem.lookup) ?_ (by with_unfolding_all rfl)
      refine getItem_tuple_rev ht (Heap.IsSliceOf.new _ vl vu vs) pl pu ps ?_ (by rw [List.size_toArray]; omega)
      refine ⟨.ref _, _, I5.laid (t' := s4.toks) (o := .tup vs'.reverse) (fun b ob q => Heap.get?_push_of_some _ q) (Nat.le_refl _) ?_, rfl, q1.tup o1 w.reverse _ (I5.hok.fresh (Nat.le_refl _))⟩
      exact ⟨by rw [List.length_reverse]; exact hz, _, r.reverse, by have := IsTup.new (s4.heap.push { cls := .type "slice", data := .fields #[vl, vu, vs] }) its.reverse.toArray; simpa using this⟩
  · obtain ⟨ds, e, q1⟩ := q1.opt
    obtain ⟨ad, vs', rfl, hq, w⟩ := rd.list o1 e
    cases r1
    obtain ⟨its, r, ht, hz⟩ := I5.list (show SqL X.K H4 ad vs' by rw [gd.K]; exact hq)
    have hlen := r.length
    show wpAny (model X.prog X.w) X.A (subscriptTail ea (.Slice none none (some (.UnaryOp .USub (.Constant (.int 1) k p1) p2)) p3) (.ref ad) (.ref s4.heap.objs.size)) (EP X pins σ Q) X.xe { s4 with heap := s4.heap.push { cls := .type "slice", data := .fields #[vl, vu, vs] } }
    refine tail_any (ops := [.ref ad, .ref s4.heap.objs.size]) ht.isList.typeIs (PySem.slot_list_getitem.lookup) ?_ (by with_unfolding_all rfl)
    refine wpAny_getItem_list_slice ht.isList (Heap.IsSliceOf.new _ vl vu vs) pl pu ps (by decide) ?_ (by rw [List.size_toArray]; omega)
    rw [PySem.W.krv_pick]
    refine ⟨.ref _, _, I5.laid (t' := s4.toks) (o := .lst vs'.reverse) (fun b ob q => Heap.get?_push_of_some _ q) (Nat.le_refl _) ?_, rfl, q1.fl o1 w.reverse _ (I5.hok.fresh (Nat.le_refl _))⟩
    exact ⟨by rw [List.length_reverse]; exact hz, _, 0, r.reverse, Heap.get?_push_size _ rfl⟩

/-! ### methods of lists -/
def superB : Expr → Bool
  | .Call .. => true | _ => false
theorem base_none {e : Expr} (h : superB e = false) (m : Str) (env : Env) (wh : Sem Value) : attributeBase e m env wh = wh := by
  cases e <;> first | rfl | cases h
def meN : Me → String
  | .append => "append" | .pop0 => "pop" | .pop1 => "pop" | .extend => "extend" | .count => "count"
theorem lst_ty {K : PySem.W.Frag} {fa pr ph : List Addr} {H : Hp} {S : Store} {k : Nat} {v : V} (hs : (cellL S k).isSome = true) (o : SOk K fa pr ph S H) (r : DI.RD K fa pr ph H (.lst k) v) : tyV K "list" v H := by
  cases r with
  | lst q =>
    obtain ⟨ds, e⟩ := Option.isSome_iff_exists.mp hs
    obtain ⟨vs, e, _⟩ := o.lst (cellL_eq e) q
    exact .inl ⟨rfl, vs, .inl (.inl e)⟩
/-- the receiver, then the method -/
theorem me_seq {m : Me} {cs : List E} {σ : L2.St} {H : Hp} {Q : VK} (hK : X.K = G.K) (h : tE G cf W (.me m a cs) σ H Q) : tE G cf W a σ H fun v H1 => tyV X.K "list" v H1 ∧ tEs G cf W cs σ H1 fun ys H2 =>
    ∃ pr ph2 S2 k ds, (G.wp pr).SOk ph2 S2 H2 ∧ (G.wp pr).RD ph2 H2 (.lst k) v ∧ (G.wp pr).RDs ph2 H2 ds ys ∧ Post (G.wp pr) ph2 H2 σ W (G.wp pr).RD (me m k ds S2) Q := by
  obtain ⟨pr, ph, s, S, rs, o, h⟩ := h
  simp only [evalE] at h
  refine ⟨pr, ph, s, S, rs, o, h.seq.imp fun v H1 ⟨ph1, S1, d, n1, o1, rd, _, h1⟩ => ?_⟩
  obtain ⟨k, hd⟩ : ∃ k, d = .lst k := by
    cases d with
    | lst k => exact ⟨k, rfl⟩
    | _ => exact h1.elim
  subst hd
  simp only at h1
  split at h1 <;> first | exact h1.elim | skip
  rename_i hs
  refine ⟨by rw [hK]; exact lst_ty hs o1 rd, pr, ph1, s, S1, rs.next n1 o, o1, (h1.seq (Ra := (G.wp pr).RDs)).imp fun ys H2 ⟨ph2, S2, ds, n2, o2, rds, _, h2⟩ => ?_⟩
  exact ⟨pr, ph2, S2, k, ds, o2, rd.next n2 o1, rds, h2⟩
theorem mtR_append : MtR X "list.append" (fun v ys H Q => ∃ pr ph S k ds σ W, (G.wp pr).SOk ph S H ∧ (G.wp pr).RD ph H (.lst k) v ∧ (G.wp pr).RDs ph H ds ys ∧ Post (G.wp pr) ph H σ W (G.wp pr).RD (me .append k ds S) Q) := by
  intro pins s σ H x xs v us Q I rx rv h
  obtain ⟨pr, ph, S, k, ds, σ', W, o, rd, rds, h⟩ := h
  unfold me at h
  split at h <;> first | exact h.elim | (rename_i e; cases e; done) | skip
  obtain ⟨es, e, h⟩ := h.opt
  cases rd with
  | @lst _ ad hk =>
    obtain ⟨vs, q, w⟩ := o.lst (cellL_eq e) hk
    cases rds with
    | cons r0 rn =>
      cases rn
      split at h
      · rename_i hz
        refine mt_append pins s σ H _ _ v us Q I rx rv ⟨ad, vs, _, rfl, rfl, q, by rw [← w.length, ← limEq]; exact hz, ?_⟩
        exact h.ok' (Nxt.write (List.mem_of_getElem? hk)) (o.write hk (w.append (.cons r0 .nil))) .non
      · exact h.elim
theorem mtR_pop1 : MtR X "list.pop" (fun v ys H Q => ∃ pr ph S k ds σ W, (G.wp pr).SOk ph S H ∧ (G.wp pr).RD ph H (.lst k) v ∧ (G.wp pr).RDs ph H ds ys ∧ Post (G.wp pr) ph H σ W (G.wp pr).RD (me .pop1 k ds S) Q) := by
  intro pins s σ H x xs v us Q I rx rv h
  obtain ⟨pr, ph, S, k, ds, σ', W, o, rd, rds, h⟩ := h
  unfold me at h
  split at h <;> first | exact h.elim | (rename_i e; cases e; done) | skip
  obtain ⟨es, e, h⟩ := h.opt
  cases rd with
  | @lst _ ad hk =>
    obtain ⟨vs, q, w⟩ := o.lst (cellL_eq e) hk
    cases rds with
    | cons r0 rn =>
      cases rn
      cases r0
      split at h
      · rename_i hz
        obtain ⟨j, e2, h⟩ := h.opt
        obtain ⟨y, e3, h⟩ := h.opt
        obtain ⟨vy, h1, h2⟩ := w.get e3
        obtain ⟨e4, _⟩ := ixN_seq e2
        have n : Nxt ph H ph (upd H ad (.lst (vs.eraseIdx j))) := Nxt.write (List.mem_of_getElem? hk)
        refine mt_popAt pins s σ H _ _ v us Q I rx rv ⟨ad, vs, _, j, vy, rfl, rfl, q, hz.1, hz.2, by rw [← w.length]; exact e4, h1, ?_⟩
        exact h.ok' n (o.write hk (w.eraseIdx j)) (h2.next n o)
      · exact h.elim
theorem mtR_pop0 : MtR X "list.pop" (fun v ys H Q => ∃ pr ph S k ds σ W, (G.wp pr).SOk ph S H ∧ (G.wp pr).RD ph H (.lst k) v ∧ (G.wp pr).RDs ph H ds ys ∧ Post (G.wp pr) ph H σ W (G.wp pr).RD (me .pop0 k ds S) Q) := by
  intro pins s σ H x xs v us Q I rx rv h
  obtain ⟨pr, ph, S, k, ds, σ', W, o, rd, rds, h⟩ := h
  unfold me at h
  split at h <;> first | exact h.elim | (rename_i e; cases e; done) | skip
  obtain ⟨es, e, h⟩ := h.opt
  cases rd with
  | @lst _ ad hk =>
    obtain ⟨vs, q, w⟩ := o.lst (cellL_eq e) hk
    cases rds
    obtain ⟨y, e3, h⟩ := h.opt
    obtain ⟨vy, h1, h2⟩ := w.get e3
    have n : Nxt ph H ph (upd H ad (.lst vs.dropLast)) := Nxt.write (List.mem_of_getElem? hk)
    refine mt_pop pins s σ H _ _ v us Q I rx rv ⟨ad, vs, vy, rfl, rfl, q, by rw [← w.length]; exact h1, ?_⟩
    exact h.ok' n (o.write hk w.dropLast) (h2.next n o)
/-- o.append(e) -/
theorem se_append {apos : Pos} (hx : x = Str.ofString "append") (ha : SE T cf g a ea) (hb : SE T cf g b eb) (hs : starB eb = false) (hsu : superB ea = false) (hl : (apos.endLine == pos.line) = true) :
    SE T cf g (.me .append a [b]) (.Call (.Attribute ea x apos) [eb] [] pos) := fun G X W gd => by
  subst hx
  have e0 := star_cons hs [] X.env
  refine (pe_bm PySem.F.plainAttrs_list PySem.F.slot_list_append PySem.F.type_list_append (mtR_append (G := G)) (ha G X W gd) (ses_cons hb hs ses_nil G X W gd) (base_none hsu _ _ _) (by rw [e0]; rfl) hl e0 rfl).imp fun σ H Q h => ?_
  obtain ⟨pr, ph, s, S, rs, o, h⟩ := me_seq gd.K h
  exact ⟨pr, ph, s, S, rs, o, h.imp fun v H1 ⟨ty, h1⟩ => ⟨ty, tEs_mono _ _ _ _ (fun ys H2 ⟨pr, ph2, S2, k, ds, q1, q2, q3, q4⟩ => ⟨pr, ph2, S2, k, ds, _, _, q1, q2, q3, q4⟩) h1⟩⟩
/-- o.pop(e) -/
theorem se_pop1 {apos : Pos} (hx : x = Str.ofString "pop") (ha : SE T cf g a ea) (hb : SE T cf g b eb) (hs : starB eb = false) (hsu : superB ea = false) (hl : (apos.endLine == pos.line) = true) :
    SE T cf g (.me .pop1 a [b]) (.Call (.Attribute ea x apos) [eb] [] pos) := fun G X W gd => by
  subst hx
  have e0 := star_cons hs [] X.env
  refine (pe_bm PySem.F.plainAttrs_list PySem.F.slot_list_pop PySem.F.type_list_pop (mtR_pop1 (G := G)) (ha G X W gd) (ses_cons hb hs ses_nil G X W gd) (base_none hsu _ _ _) (by rw [e0]; rfl) hl e0 rfl).imp fun σ H Q h => ?_
  obtain ⟨pr, ph, s, S, rs, o, h⟩ := me_seq gd.K h
  exact ⟨pr, ph, s, S, rs, o, h.imp fun v H1 ⟨ty, h1⟩ => ⟨ty, tEs_mono _ _ _ _ (fun ys H2 ⟨pr, ph2, S2, k, ds, q1, q2, q3, q4⟩ => ⟨pr, ph2, S2, k, ds, _, _, q1, q2, q3, q4⟩) h1⟩⟩
/-- o.pop() -/
theorem se_pop0 {apos : Pos} (hx : x = Str.ofString "pop") (ha : SE T cf g a ea) (hsu : superB ea = false) (hl : (apos.endLine == pos.line) = true) :
    SE T cf g (.me .pop0 a []) (.Call (.Attribute ea x apos) [] [] pos) := fun G X W gd => by
  subst hx
  refine (pe_bm0 PySem.F.plainAttrs_list PySem.F.slot_list_pop PySem.F.type_list_pop (mtR_pop0 (G := G)) (ha G X W gd) (base_none hsu _ _ _) hl).imp fun σ H Q h => ?_
  obtain ⟨pr, ph, s, S, rs, o, h⟩ := me_seq gd.K h
  refine ⟨pr, ph, s, S, rs, o, h.imp fun v H1 ⟨ty, pr, ph1, s1, S1, rs1, o1, h1⟩ => ⟨ty, ?_⟩⟩
  simp only [evalEs] at h1
  obtain ⟨pr, ph2, S2, k, ds, q1, q2, q3, q4⟩ := Post.ok h1 o1 .nil
  exact ⟨pr, ph2, S2, k, ds, _, _, q1, q2, q3, q4⟩
end
end DI
end
section
set_option maxRecDepth 100000
set_option maxHeartbeats 1000000
/-! DI8: what is walked, targets. -/
namespace DI
open PySem PySem.Spec PyProof.Rows L2

/-! ### later, with more protected addresses -/
section
variable {K : PySem.W.Frag} {fa pr pr' ph ph' : List Addr} {H H' : Hp} {S : Store}
abbrev Prk (pr : List Addr) (H : Hp) (pr' : List Addr) : Prop := ∀ a, a ∈ pr' → a ∈ pr ∨ H a = none
theorem Prk.not {a : Addr} {u : HO} (hp : Prk pr H pr') (h : a ∉ pr) (e : H a = some u) : a ∉ pr' := fun hm => (hp _ hm).elim h fun q => by rw [e] at q; cases q
/-- as Nxt, but the protected lists may change -/
structure NxtP (pr ph : List Addr) (H : Hp) (ph' : List Addr) (H' : Hp) : Prop where
  app : ∃ ps, ph' = ph ++ ps
  new : ∀ a, a ∈ ph' → a ∉ ph → H a = none
  ext : ∀ a o, H a = some o → a ∉ ph → a ∉ pr → H' a = some o
theorem Nxt.p (n : Nxt ph H ph' H') : NxtP pr ph H ph' H' := ⟨n.app, n.new, fun a o h1 h2 _ => n.ext a o h1 h2⟩
theorem NxtP.trans {ph'' : List Addr} {H'' : Hp} (a : NxtP pr ph H ph' H') (hp : Prk pr H pr') (b : NxtP pr' ph' H' ph'' H'') (hs : ∀ x, x ∈ pr → ∃ vs, H x = some (.lst vs) ∧ ∃ ws, H' x = some (.lst ws)) : NxtP pr ph H ph'' H'' := by
  obtain ⟨p, hp1⟩ := a.app
  obtain ⟨q, hq⟩ := b.app
  refine ⟨⟨p ++ q, by rw [hq, hp1, List.append_assoc]⟩, fun x hx hn => ?_, fun x o e hn hr => ?_⟩
  · by_cases h : x ∈ ph'
    · exact a.new x h hn
    · have hb := b.new x hx h
      cases e : H x with
      | none => rfl
      | some o =>
        by_cases hr : x ∈ pr
        · obtain ⟨vs, h1, ws, h2⟩ := hs x hr
          rw [h2] at hb; cases hb
        · rw [a.ext x o e hn hr] at hb; cases hb
  · have e' := a.ext x o e hn hr
    refine b.ext x o e' (fun h => ?_) (hp.not hr e)
    rw [a.new x h hn] at e; cases e
theorem NxtP.nin (n : NxtP pr ph H ph' H') {a : Addr} {u : HO} (hn : a ∉ ph) (h : H a = some u) : a ∉ ph' := fun hm => by
  rw [n.new a hm hn] at h; cases h
theorem NxtP.get (n : NxtP pr ph H ph' H') {k : Nat} {a : Addr} (h : ph[k]? = some a) : ph'[k]? = some a := by
  obtain ⟨p, hp⟩ := n.app
  rw [hp, List.getElem?_append_left (List.getElem?_eq_some_iff.mp h).1]; exact h
theorem NxtP.tup (n : NxtP pr ph H ph' H') (o : SOk K fa pr ph S H) {a : Addr} {vs : List V} (h : SqT K H a vs) : SqT K H' a vs := by
  have key : ∀ u, H a = some u → (∀ c, ¬ Shape c u) → H' a = some u := fun u e ne => n.ext a u e (fun hm => by
    obtain ⟨u', e', c, sh⟩ := o.get hm
    rw [e] at e'; cases e'; exact ne c sh) fun hm => by
    obtain ⟨_, xs, e'⟩ := o.prs a hm
    rw [e] at e'; cases e'; exact ne (.lst []) True.intro
  rcases h with (h | ⟨ob, h⟩) | h
  · exact .inl (.inl (key _ h fun c z => by cases c <;> exact z))
  · exact .inl (.inr ⟨ob, key _ h fun c z => by cases c <;> exact z⟩)
  · exact .inr h
theorem RoL.nwp {a : Addr} {vs : List V} (n : NxtP pr ph H ph' H') (hp : Prk pr H pr') (h : RoL K pr ph H a vs) : RoL K pr' ph' H' a vs := by
  rcases h with ⟨h1, h2, h | ⟨ob, h⟩⟩ | h
  · exact .inl ⟨n.nin h1 h, hp.not h2 h, .inl (n.ext _ _ h h1 h2)⟩
  · exact .inl ⟨n.nin h1 h, hp.not h2 h, .inr ⟨ob, n.ext _ _ h h1 h2⟩⟩
  · exact .inr h
mutual
theorem RD.nwp (n : NxtP pr ph H ph' H') (o : SOk K fa pr ph S H) (hp : Prk pr H pr') : ∀ {d : D} {v : V}, RD K fa pr ph H d v → RD K fa pr' ph' H' d v
  | _, _, .non => .non
  | _, _, .bl b => .bl b
  | _, _, .int b => .int b
  | _, _, .str b => .str b
  | _, _, .tup q r => .tup (n.tup o q) (RDs.nwp n o hp r)
  | _, _, .fl h1 h2 h3 r => .fl (n.nin h1 h3) (hp.not h2 h3) (n.ext _ _ h3 h1 h2) (RDs.nwp n o hp r)
  | _, _, .kl h r => .kl (h.nwp n hp) (RDs.nwp n o hp r)
  | _, _, .lst h => .lst (n.get h)
  | _, _, .dct h => .dct (n.get h)
  | _, _, .fn h => .fn h
theorem RDs.nwp (n : NxtP pr ph H ph' H') (o : SOk K fa pr ph S H) (hp : Prk pr H pr') : ∀ {ds : List D} {vs : List V}, RDs K fa pr ph H ds vs → RDs K fa pr' ph' H' ds vs
  | _, _, .nil => .nil
  | _, _, .cons h r => .cons (RD.nwp n o hp h) (RDs.nwp n o hp r)
end
theorem RSl.nwp {s : Sl} {σ : L2.St} (n : NxtP pr ph H ph' H') (o : SOk K fa pr ph S H) (hp : Prk pr H pr') (r : RSl K fa pr ph H s σ) : RSl K fa pr' ph' H' s σ := ⟨r.len, fun i d h =>
  let ⟨v, h1, h2⟩ := r.at_ i d h
  ⟨v, h1, h2.nwp n o hp⟩⟩
end

/-! ### what an iterator is -/
def RIt (G : Glb) (ph : List Addr) (H : Hp) (src : Src) (J : L2.It) : Prop := ∀ pr' ph' H' S' i, Prk G.pr H pr' → NxtP G.pr ph H ph' H' → (G.wp pr').SOk ph' S' H' → match src.at S' i with
  | none => True
  | some none => J.stop i H'
  | some (some d) => J.go i H' ∧ ∀ x H'', J.yld i H' x H'' → Nxt ph' H' ph' H'' ∧ (G.wp pr').SOk ph' S' H'' ∧ (G.wp pr').RD ph' H'' d x
/-- a list or a tuple that is walked -/
def SrcQ (Sq : Hp → Addr → List V → Prop) (G : Glb) (ph : List Addr) (H : Hp) (src : Src) (a : Addr) : Prop := ∀ pr' ph' H' S' i, Prk G.pr H pr' → NxtP G.pr ph H ph' H' → (G.wp pr').SOk ph' S' H' → match src.at S' i with
  | none => True
  | some none => ∃ vs, Sq H' a vs ∧ vs.length ≤ i
  | some (some d) => ∃ vs x, Sq H' a vs ∧ vs[i]? = some x ∧ (G.wp pr').RD ph' H' d x
section
variable {G : Glb} {ph : List Addr} {H : Hp} {S : Store} {d : D} {v : V} {src : Src}
theorem srcQ_imm {Sq : Hp → Addr → List V → Prop} {t : Bool} {ds : List D} {a : Addr} {vs : List V} (o : G.SOk ph S H) (w : G.RDs ph H ds vs) (hq : ∀ ph' H', NxtP G.pr ph H ph' H' → Sq H' a vs) : SrcQ Sq G ph H (.imm t ds) a := fun pr' ph' H' S' i hp' n' o' => by
  show match (some ds[i]? : Option (Option D)) with | none => True | some none => _ | some (some d) => _
  cases e : ds[i]? with
  | none => exact ⟨vs, hq _ _ n', by rw [← w.length]; exact List.getElem?_eq_none_iff.mp e⟩
  | some d =>
    obtain ⟨x, e1, e2⟩ := (w.nwp n' o hp').get e
    exact ⟨vs, x, hq _ _ n', e1, e2⟩
theorem srcL (o : G.SOk ph S H) (r : G.RD ph H d v) (h : srcOf S d = some src) (ht : src.isT = false) : ∃ a, v = .ref a ∧ (∃ xs, SqL G.K H a xs) ∧ SrcQ (SqL G.K) G ph H src a := by
  cases r with
  | tup q w => simp [srcOf] at h; subst h; cases ht
  | @fl ds ad vs hn hp q w =>
    simp [srcOf] at h; subst h
    exact ⟨ad, rfl, ⟨vs, .inl (.inl q)⟩, srcQ_imm o w fun ph' H' n' => .inl (.inl (n'.ext _ _ q hn hp))⟩
  | @kl ds ad vs q w =>
    simp [srcOf] at h; subst h
    exact ⟨ad, rfl, ⟨vs, q.sq⟩, srcQ_imm o w fun ph' H' n' => (q.nwp (pr' := G.pr) n' fun a h => .inl h).sq⟩
  | @lst k ad q =>
    simp only [srcOf] at h
    cases e : cellL S k with
    | none => rw [e] at h; cases h
    | some ds =>
      rw [e] at h; simp at h; subst h
      obtain ⟨vs, h1, _⟩ := o.lst (cellL_eq e) q
      refine ⟨ad, rfl, ⟨vs, .inl (.inl h1)⟩, fun pr' ph' H' S' i hp' n' o' => ?_⟩
      show match (cellL S' k).map (fun ds => ds[i]?) with | none => True | some none => _ | some (some d) => _
      cases e' : cellL S' k with
      | none => trivial
      | some ds' =>
        obtain ⟨vs', h1', w⟩ := o'.lst (cellL_eq e') (n'.get q)
        show match (some ds'[i]? : Option (Option D)) with | none => True | some none => _ | some (some d) => _
        cases e2 : ds'[i]? with
        | none => exact ⟨vs', .inl (.inl h1'), by rw [← w.length]; exact List.getElem?_eq_none_iff.mp e2⟩
        | some d =>
          obtain ⟨x, e3, e4⟩ := w.get e2
          exact ⟨vs', x, .inl (.inl h1'), e3, e4⟩
  | _ => simp [srcOf] at h
theorem srcT (o : G.SOk ph S H) (r : G.RD ph H d v) (h : srcOf S d = some src) (ht : src.isT = true) : ∃ a, v = .ref a ∧ (∃ xs, SqT G.K H a xs) ∧ SrcQ (SqT G.K) G ph H src a := by
  cases r with
  | @tup ds ad vs q w =>
    simp [srcOf] at h; subst h
    exact ⟨ad, rfl, ⟨vs, q⟩, srcQ_imm o w fun ph' H' n' => n'.tup o q⟩
  | fl hn hp q w => simp [srcOf] at h; subst h; cases ht
  | kl q w => simp [srcOf] at h; subst h; cases ht
  | lst q =>
    simp only [srcOf] at h
    cases e : cellL S _ with
    | none => rw [e] at h; cases h
    | some ds => rw [e] at h; simp at h; subst h; cases ht
  | _ => simp [srcOf] at h
theorem rIt_list {a : Addr} (h : SrcQ (SqL G.K) G ph H src a) : RIt G ph H src (Itl G.K a) := fun pr' ph' H' S' i hp n o => by
  have q := h pr' ph' H' S' i hp n o
  cases e : src.at S' i with
  | none => trivial
  | some u =>
    rw [e] at q
    cases u with
    | none => exact q
    | some d =>
      obtain ⟨vs, x, h1, h2, h3⟩ := q
      refine ⟨⟨vs, x, h1, h2⟩, fun y H'' ⟨e1, e2⟩ => ?_⟩
      subst e1
      rw [e2 vs h1] at h2
      cases h2
      exact ⟨.refl, o, h3⟩
theorem rIt_tup {a : Addr} (h : SrcQ (SqT G.K) G ph H src a) : RIt G ph H src (Itt G.K a) := fun pr' ph' H' S' i hp n o => by
  have q := h pr' ph' H' S' i hp n o
  cases e : src.at S' i with
  | none => trivial
  | some u =>
    rw [e] at q
    cases u with
    | none => exact q
    | some d =>
      obtain ⟨vs, x, h1, h2, h3⟩ := q
      refine ⟨⟨vs, x, h1, h2⟩, fun y H'' ⟨e1, e2⟩ => ?_⟩
      subst e1
      rw [e2 vs h1] at h2
      cases h2
      exact ⟨.refl, o, h3⟩
theorem rIt_rng {lo : Int} {n : Nat} : RIt G ph H (.rng lo n) (Itr lo n) := fun pr' ph' H' S' i hp nn o => by
  show match (some (if i < n then some (.int (lo + i)) else none) : Option (Option D)) with | none => True | some none => _ | some (some d) => _
  by_cases h : i < n
  · rw [if_pos h]
    refine ⟨h, fun x H'' ⟨e1, e2⟩ => ?_⟩
    subst e1 e2
    exact ⟨.refl, o, .int _⟩
  · rw [if_neg h]
    exact Nat.not_lt.mp h
/-- a new tuple -/
theorem SOk.tup {T : Addr} {vs : List V} (o : G.SOk ph S H) (h : H T = none) : G.SOk ph S (upd H T (.tup vs)) := o.laid h
theorem rIt_enum {a : Addr} (h : SrcQ (SqL G.K) G ph H src a) : RIt G ph H (.enum src) (Ite G.K a) := fun pr' ph' H' S' i hp n o => by
  have q := h pr' ph' H' S' i hp n o
  show match (match src.at S' i with | some (some x) => some (some (.tup [.int i, x])) | some none => some none | none => none : Option (Option D)) with | none => True | some none => _ | some (some d) => _
  cases e : src.at S' i with
  | none => trivial
  | some u =>
    rw [e] at q
    cases u with
    | none => exact q
    | some d =>
      obtain ⟨vs, x, h1, h2, h3⟩ := q
      refine ⟨⟨vs, x, h1, h2⟩, fun y H'' ⟨T, x', e1, e2, e3, e4⟩ => ?_⟩
      subst e1 e3
      rw [e4 vs h1] at h2
      cases h2
      exact ⟨.laid e2, o.laid e2, .tup (.inl (.inl (upd_same))) (.cons (.int _) (.cons (h3.next (.laid e2) o) .nil))⟩
/-- the tuple at a, each item in a new pair -/
def IteT (K : PySem.W.Frag) (a : Addr) : L2.It :=
  ⟨fun i H => ∃ (xs : List V) (x : V), SqT K H a xs ∧ xs[i]? = some x, fun i H v H' => ∃ T x, v = .ref T ∧ H T = none ∧ H' = upd H T (.tup [.int (i : Nat), x]) ∧ ∀ xs, SqT K H a xs → xs[i]? = some x, fun i H => ∃ xs : List V, SqT K H a xs ∧ xs.length ≤ i⟩
theorem rIt_enumT {a : Addr} (h : SrcQ (SqT G.K) G ph H src a) : RIt G ph H (.enum src) (IteT G.K a) := fun pr' ph' H' S' i hp n o => by
  have q := h pr' ph' H' S' i hp n o
  show match (match src.at S' i with | some (some x) => some (some (.tup [.int i, x])) | some none => some none | none => none : Option (Option D)) with | none => True | some none => _ | some (some d) => _
  cases e : src.at S' i with
  | none => trivial
  | some u =>
    rw [e] at q
    cases u with
    | none => exact q
    | some d =>
      obtain ⟨vs, x, h1, h2, h3⟩ := q
      refine ⟨⟨vs, x, h1, h2⟩, fun y H'' ⟨T, x', e1, e2, e3, e4⟩ => ?_⟩
      subst e1 e3
      rw [e4 vs h1] at h2
      cases h2
      exact ⟨.laid e2, o.laid e2, .tup (.inl (.inl (upd_same))) (.cons (.int _) (.cons (h3.next (.laid e2) o) .nil))⟩
theorem rIt_zip {src2 : Src} {a b : Addr} (h : SrcQ (SqL G.K) G ph H src a) (h' : SrcQ (SqL G.K) G ph H src2 b) : RIt G ph H (.zip src src2) (Itz G.K a b) := fun pr' ph' H' S' i hp n o => by
  have q := h pr' ph' H' S' i hp n o
  have q' := h' pr' ph' H' S' i hp n o
  unfold Src.at
  cases e : src.at S' i with
  | none => trivial
  | some u =>
    rw [e] at q
    cases e' : src2.at S' i with
    | none => cases u <;> trivial
    | some u' =>
      rw [e'] at q'
      cases u with
      | none =>
        obtain ⟨vs, h1, h2⟩ := q
        have : ∃ ws, SqL G.K H' b ws := by cases u' with
          | none => exact ⟨_, q'.choose_spec.1⟩
          | some d => exact ⟨_, q'.choose_spec.choose_spec.1⟩
        exact ⟨vs, this.choose, h1, this.choose_spec, .inl h2⟩
      | some d =>
        obtain ⟨vs, x, h1, h2, h3⟩ := q
        cases u' with
        | none =>
          obtain ⟨ws, g1, g2⟩ := q'
          exact ⟨vs, ws, h1, g1, .inr g2⟩
        | some d' =>
          obtain ⟨ws, y, g1, g2, g3⟩ := q'
          refine ⟨⟨vs, ws, x, y, h1, g1, h2, g2⟩, fun z H'' ⟨T, x', y', e1, e2, e3, e4, e5⟩ => ?_⟩
          subst e1 e3
          rw [e4 vs h1] at h2
          rw [e5 ws g1] at g2
          cases h2
          cases g2
          exact ⟨.laid e2, o.laid e2, .tup (.inl (.inl (upd_same))) (.cons (h3.next (.laid e2) o) (.cons (g3.next (.laid e2) o) .nil))⟩
theorem rIt_zipT {src2 : Src} {a b : Addr} (h : SrcQ (SqT G.K) G ph H src a) (h' : SrcQ (SqT G.K) G ph H src2 b) : RIt G ph H (.zip src src2) (RZ.ItzT G.K a b) := fun pr' ph' H' S' i hp n o => by
  have q := h pr' ph' H' S' i hp n o
  have q' := h' pr' ph' H' S' i hp n o
  unfold Src.at
  cases e : src.at S' i with
  | none => trivial
  | some u =>
    rw [e] at q
    cases e' : src2.at S' i with
    | none => cases u <;> trivial
    | some u' =>
      rw [e'] at q'
      cases u with
      | none =>
        obtain ⟨vs, h1, h2⟩ := q
        have : ∃ ws, SqT G.K H' b ws := by cases u' with
          | none => exact ⟨_, q'.choose_spec.1⟩
          | some d => exact ⟨_, q'.choose_spec.choose_spec.1⟩
        exact ⟨vs, this.choose, h1, this.choose_spec, .inl h2⟩
      | some d =>
        obtain ⟨vs, x, h1, h2, h3⟩ := q
        cases u' with
        | none =>
          obtain ⟨ws, g1, g2⟩ := q'
          exact ⟨vs, ws, h1, g1, .inr g2⟩
        | some d' =>
          obtain ⟨ws, y, g1, g2, g3⟩ := q'
          refine ⟨⟨vs, ws, x, y, h1, g1, h2, g2⟩, fun z H'' ⟨T, x', y', e1, e2, e3, e4, e5⟩ => ?_⟩
          subst e1 e3
          rw [e4 vs h1] at h2
          rw [e5 ws g1] at g2
          cases h2
          cases g2
          exact ⟨.laid e2, o.laid e2, .tup (.inl (.inl (upd_same))) (.cons (h3.next (.laid e2) o) (.cons (g3.next (.laid e2) o) .nil))⟩
end

/-! ### enumerate(tuple) -/
theorem meets_enumerate_newT (l : Addr) (items : Array Value) :
    Meets (Builtin.«enumerate.__new__» ⟨[.type "enumerate", .ref l], []⟩) (fun _ R s => s.heap.IsTuple l items ∧
      R (.ok (.ret (.ref (s.heap.push { cls := .type "tuple_iterator", data := .fields #[.ref l, .int 0 0] }).objs.size)))
        { s with heap := (s.heap.push { cls := .type "tuple_iterator", data := .fields #[.ref l, .int 0 0] }).push { cls := .type "enumerate", data := .fields #[.none, .bool false, .ref s.heap.objs.size, rawInt 0, .none, .none] } }) :=
  .of_wp fun prog w A R s h => by
    obtain ⟨hp, g, d, tk, os⟩ := s; obtain ⟨hl, h⟩ := h
    have hsub := sub_enumerate
    have q1 : ∀ {A' : Around} {E : Value → Shared → Prop} {Q : Value → Shared → Prop}, Q (.ref hp.objs.size) ⟨hp.push { cls := .type "tuple_iterator", data := .fields #[.ref l, .int 0 0] }, g, d, tk, os⟩ → wpAny (model prog w) A' (pyIter (.ref l)) Q E ⟨hp, g, d, tk, os⟩ :=
      fun q => wpAny_pyIter_tuple hl q
    wp_walk using q1
    refine wpAny_stack_any fun st => wpAny_pure ?_
    split
    · rename_i c _ _ _ _ _
      cases (c == Value.type "enumerate")
      · wp_walk using q1
        exact ⟨_, rfl, h⟩
      · wp_walk using q1
        exact ⟨_, rfl, h⟩
    · wp_walk using q1
      exact ⟨_, rfl, h⟩
section
variable {prog : Program} {w : World} {A : Around} {E : Value → Shared → Prop} {s : Shared}
theorem call_enumerate_tuple {l : Addr} {items : Array Value} {Q : Value → Shared → Prop} (hL : s.heap.IsTuple l items)
    (h : ∀ h', IsEnum h' (s.heap.objs.size + 1) s.heap.objs.size 0 .none → h'.IsTupleIter s.heap.objs.size l 0 → h'.objs.size = s.heap.objs.size + 2 →
      (∀ b o, s.heap.get? b = some o → h'.get? b = some o) → Q (.ref (s.heap.objs.size + 1)) { s with heap := h' }) :
    wpAny (model prog w) A (call (.type "enumerate") [.ref l]) Q E s := by
  refine callType_new F.called_enumerate (by decide) (F.typeCall_enumerate_1 _) (F.newCall_enumerate_1 _) (fun obj => F.args_object_init_2 obj _) F.entry_enumerate_new
    (meets_enumerate_newT l items) ⟨hL, ?_⟩
  have hz : (s.heap.push { cls := .type "tuple_iterator", data := .fields #[.ref l, .int 0 0] }).objs.size = s.heap.objs.size + 1 := Heap.size_push ..
  show _ ∧ _
  rw [hz]
  have he : IsEnum ((s.heap.push { cls := .type "tuple_iterator", data := .fields #[.ref l, .int 0 0] }).push
      { cls := .type "enumerate", data := .fields #[.none, .bool false, .ref s.heap.objs.size, rawInt 0, .none, .none] }) (s.heap.objs.size + 1) s.heap.objs.size 0 .none := by
    have := Heap.get?_push_size (s.heap.push { cls := .type "tuple_iterator", data := .fields #[.ref l, .int 0 0] })
      (o := { cls := .type "enumerate", data := .fields #[.none, .bool false, .ref s.heap.objs.size, rawInt 0, .none, .none] }) rfl
    rw [hz] at this; exact this
  refine ⟨⟨_, he, rfl⟩, h _ he ⟨_, Heap.get?_push_of_some _ (Heap.get?_push_size _ rfl), rfl, rfl⟩ (by rw [Heap.size_push, hz]) fun b o x => Heap.get?_push_of_some _ (Heap.get?_push_of_some _ x)⟩
end
theorem turn_enumT {P : Program} {w : World} {K : PySem.W.Frag} {elts : List Expr} {kk : Nat} {tpos : Pos} (a e it : Addr) :
    Turn P w K (.Tuple elts kk tpos) (IteT K a) [e, it] e (fun i h => (∃ old, IsEnum h e it ((i : Nat) : Int) old) ∧ h.IsTupleIter it a i ∧ e ≠ it ∧ a ≠ it ∧ e ≠ a) where
  mem := by simp
  obj := fun i h st b hb => by
    obtain ⟨⟨old, he⟩, ⟨o, ho, hc, hd⟩, _⟩ := st
    have e' : b = e ∨ b = it := by simpa using hb
    rcases e' with z | z
    · rw [z]; exact ⟨_, he, fun v q => nomatch q⟩
    · rw [z]; exact ⟨o, ho, fun v q => by rw [hd] at q; cases q⟩
  keep := fun i h h' st k => let ⟨⟨old, he⟩, hi, hne⟩ := st; ⟨⟨old, k e (by simp) _ he⟩, hi.at fun o q => k it (by simp) o q, hne⟩
  item := by
    intro X hP hw hK hc i pins s σ H E I hf st hg
    subst hP hw hK
    obtain ⟨⟨old, he⟩, hit, hne, hai, hea⟩ := st
    obtain ⟨xs, x, hq, hx⟩ := hg
    obtain ⟨its, rv, p, hz⟩ := I.tuple hq
    obtain ⟨u, hu, ru⟩ := rv.get hx
    have hel : e < s.heap.objs.size := Heap.lt_size he
    have hil : it < s.heap.objs.size := by obtain ⟨_, q, _⟩ := hit; exact Heap.lt_size q
    have hlen : i < its.length := by
      have := (List.getElem?_eq_some_iff.mp hu).1
      exact this
    have hh : X.A.in1.handled = none := I.ok.hd hc
    refine wpAny_pyNext_enum_itemD (Draws.tuple hh it a hai its.toArray) he ⟨hit, p⟩ (by simpa using hlen) hne (by simp [hne, hea]) fun x' h' tk hP ho hit' hT hsz hk => ?_
    have hx' : x' = u := by
      have hP' : its[i]? = some x' := by simpa using hP
      rw [hu] at hP'; cases hP'; rfl
    subst hx'
    refine ⟨_, rfl, wpAny_letOwnedTupleGo_enum (s := { s with heap := h', toks := tk + 1 }) ho fun h'' he' sb => ?_⟩
    have hT2 : h''.get? s.heap.objs.size = some { cls := .type "tuple", data := .seq #[.int i tk, x'] } := (sb.2 _ (Nat.ne_of_gt hel)).trans hT
    have new : ObjOk X.prog X.w (upd H s.heap.objs.size (.tup [.int (i : Nat), x])) h'' s.heap.objs.size (.tup [.int (i : Nat), x]) :=
      ⟨by show 2 ≤ sizeLine; decide, [.int i tk, x'], .cons ⟨_, rfl⟩ (.cons ru .nil), ⟨_, hT2, rfl, _, rfl⟩⟩
    have I1 : Inv X pins σ (upd H s.heap.objs.size (.tup [.int (i : Nat), x])) { s with heap := h'', toks := tk + 1 } :=
      I.turnedNew (ch := [e, it]) (fun b ob hb q => (sb.2 b (fun z => hb (by simp [z]))).trans (hk b ob (fun z => hb (by simp [z])) (fun z => hb (by simp [z])) q)) hf (Nat.le_refl _) new
    refine ⟨.ref s.heap.objs.size, _, I1, rfl, ⟨_, x, rfl, I.hok.fresh (Nat.le_refl _), rfl, fun ys hy => by rw [I.tuple_inj hy hq]; exact hx⟩, ⟨⟨x', ?_⟩, hit'.1.at fun o q => (sb.2 it (Ne.symm hne)).trans q, hne, hai, hea⟩, fun b hb => ?_⟩
    · have e1 : ((i + 1 : Nat) : Int) = (i : Int) + 1 := by omega
      rw [e1]; exact he'
    · have hb' : b < s.heap.objs.size := by
        have e' : b = e ∨ b = it := by simpa using hb
        rcases e' with z | z
        · rw [z]; exact hel
        · rw [z]; exact hil
      rw [upd_ne (Nat.ne_of_lt hb')]
      exact (hf b hb).1
  done := by
    intro X hP hw hK hc i pins s σ H E I hf st hg
    subst hP hw hK
    obtain ⟨⟨old, he⟩, hit, hne, hai, hea⟩ := st
    obtain ⟨xs, hq, hx⟩ := hg
    obtain ⟨its, rv, p, hz⟩ := I.tuple hq
    obtain ⟨f0, f1, f2, f3, f4, f5⟩ := hf it (by simp)
    have hl := rv.length
    have hh : X.A.in1.handled = none := I.ok.hd hc
    have D : Draws X.prog X.w X.A.in1 it [it, a] i (fun _ _ => False) (fun j h => j = i ∧ h.IsTupleIter it a i ∧ h.IsTuple a its.toArray) :=
      { live := fun _ _ st => let ⟨o, ho, _⟩ := st.2.1; ⟨o, ho⟩
        frame := fun _ _ _ st hk => ⟨st.1, st.2.1.at fun o e => hk it (by simp) o e, st.2.2.at fun o e => hk a (by simp) o e⟩
        item := fun j s Q E hi st hQ => absurd st.1 (Nat.ne_of_lt hi)
        done := fun s Q E st hE => wpAny_nextOf_tuple_end hh st.2.1 st.2.2 (by simp; omega) hE }
    exact wpAny_pyNext_enum_endD D he ⟨rfl, hit, p⟩ fun h' eb => ⟨rfl, I.turned (t' := s.toks) (fun b o hb q => eb b o hb q) f0 f1 f3 f4 f5⟩
  self := fun A i s Q E st h => let ⟨⟨_, he⟩, _⟩ := st; wpAny_pyIter_enum he h
def iEnumA (K : PySem.W.Frag) (ta : TA) : TI := fun σ H R => ta σ H fun vs H1 => ∃ a xs, vs = [.ref a] ∧ ((SqL K H1 a xs ∧ R (Ite K a) H1) ∨ (SqT K H1 a xs ∧ R (IteT K a) H1))
theorem pi_enumA {X : Cx} {e : Expr} {ta : TA} {p pos tpos : Pos} {elts : List Expr} {kk : Nat} (hg : Gl X "enumerate") (hm : X.mg "enumerate" = none) (ha : PA X [e] ta) (hs : starEach [e] X.env = [(false, eval e X.env)] := by rfl) :
    PI X (.Tuple elts kk tpos) (.Call (.Name "enumerate" p) [e] [] pos) (iEnumA X.K ta) := by
  refine ⟨fun pins s σ H R I h => ?_⟩
  refine Call_ (ld_blt I hg hm boot_enumerate (PyProof.Rows.callWith_type1 (thn (ha.run pos pins s σ H _ I h) fun us s1 ⟨vs, H1, I1, r1, q1⟩ => ?_) hs rfl))
  obtain ⟨a, xs, ex, q⟩ := q1
  subst ex
  cases r1 with
  | cons r rr =>
    cases rr
    cases r
    have fp : ∀ b, b ∈ [s1.heap.objs.size + 1, s1.heap.objs.size] → FpOk X pins H1 b := fun b hb => by
      have e' : b = s1.heap.objs.size + 1 ∨ b = s1.heap.objs.size := by simpa using hb
      have hle : s1.heap.objs.size ≤ b := by
        rcases e' with z | z
        · rw [z]; exact Nat.le_add_right _ _
        · rw [z]; exact Nat.le_refl _
      exact I1.fpOk hle (I1.hok.fresh hle)
    rcases q with ⟨hq, q⟩ | ⟨hq, q⟩
    · obtain ⟨its, rv, p', hz⟩ := I1.list hq
      refine call_enumerate_list p'.isList fun h' he hit hsz hk => wpAny_pyIter_enum he ?_
      have I2 : L2.Inv X pins σ H1 { s1 with heap := h' } := I1.kept (t' := s1.toks) hk
      exact ⟨s1.heap.objs.size + 1, [s1.heap.objs.size + 1, s1.heap.objs.size], _, _, H1, rfl, I2, turn_enum a (s1.heap.objs.size + 1) s1.heap.objs.size, ⟨⟨.none, he⟩, hit, Nat.succ_ne_self _⟩, fp, q⟩
    · obtain ⟨its, rv, p', hz⟩ := I1.tuple hq
      have hlt : a < s1.heap.objs.size := by obtain ⟨o, e, _⟩ := p'; exact Heap.lt_size e
      refine call_enumerate_tuple p' fun h' he hit hsz hk => wpAny_pyIter_enum he ?_
      have I2 : L2.Inv X pins σ H1 { s1 with heap := h' } := I1.kept (t' := s1.toks) hk
      exact ⟨s1.heap.objs.size + 1, [s1.heap.objs.size + 1, s1.heap.objs.size], _, _, H1, rfl, I2, turn_enumT a (s1.heap.objs.size + 1) s1.heap.objs.size, ⟨⟨.none, he⟩, hit, Nat.succ_ne_self _, Nat.ne_of_lt hlt, Nat.ne_of_gt (Nat.lt_succ_of_lt hlt)⟩, fp, q⟩
end DI
end
section
set_option maxRecDepth 100000
set_option maxHeartbeats 1000000
/-! DI9: iterables, targets, comprehensions. -/
namespace DI
open PySem PySem.Spec PyProof.Rows L2

def tI (G : Glb) (cf : Nat → List D → Store → R D) (W : WX) (c : It) : TI := fun σ H Q => ∃ pr ph s S, (G.wp pr).RSl ph H s σ ∧ (G.wp pr).SOk ph S H ∧ Post (G.wp pr) ph H σ W (fun ph' H' src J => RIt (G.wp pr) ph' H' src J) (evalIt cf c s S) Q
section
variable (T : Tab) (cf : Nat → List D → Store → R D) (g : Gam)
def SI (c : It) (tg e : Expr) : Prop := ∀ (G : Glb) (X : Cx) (W : WX), Good G T cf g X W → PI X tg e (tI G cf W c)
end
section
variable {T : Tab} {cf : Nat → List D → Store → R D} {g : Gam} {G : Glb} {X : Cx} {W : WX} {pos p p1 p2 p3 q tpos : Pos} {x : Str} {a b c : E} {ea eb ec tg : Expr} {cs : List E} {es elts : List Expr} {k kk : Nat}

theorem Post.it {ph : List Addr} {H : Hp} {σ : L2.St} {Rel : List Addr → Hp → Src → L2.It → Prop} {src : Src} {S : Store} {Q : L2.It → Hp → Prop} {J : L2.It} (h : Post G ph H σ W Rel (.ok src S) Q) (o : G.SOk ph S H) (r : Rel ph H src J) : Q J H := h ph H J .refl o r
/-- a list -/
theorem si_list (ha : SE T cf g a ea) : SI T cf g (.seq a) tg ea := fun G X W gd => by
  -- a list or a tuple: by its value
  refine ⟨fun pins s0 σ H R I h => ?_⟩
  obtain ⟨pr, ph, s, S, rs, o, h⟩ := h
  simp only [evalIt] at h
  refine thn ((ha G X W gd).run pins s0 σ H _ I ⟨pr, ph, s, S, rs, o, h.seq⟩) fun v s1 ⟨x, H1, I1, r1, ph1, S1, d, n1, o1, rd, _, q1⟩ => ?_
  obtain ⟨src, e, q1⟩ := q1.opt
  cases ht : src.isT with
  | false =>
    obtain ⟨ad, rfl, ⟨xs, hq⟩, sq⟩ := srcL o1 rd e ht
    cases r1
    have hq' : SqL X.K H1 ad xs := by rw [gd.K]; exact hq
    obtain ⟨its, rv, p, hz⟩ := I1.list hq'
    refine wpAny_pyIter_list p.isList ?_
    refine ⟨s1.heap.objs.size, [s1.heap.objs.size], _, _, H1, rfl, I1.kept (t' := s1.toks) fun b o e => Heap.get?_push_of_some _ e, turn_list ad _, ⟨_, Heap.get?_push_size _ rfl, rfl, rfl⟩, fun b hb => ?_, ?_⟩
    · have e : b = s1.heap.objs.size := by simpa using hb
      subst e
      exact I1.fpOk (Nat.le_refl _) (I1.hok.fresh (Nat.le_refl _))
    · rw [gd.K]; exact q1.it o1 (rIt_list sq)
  | true =>
    obtain ⟨ad, rfl, ⟨xs, hq⟩, sq⟩ := srcT o1 rd e ht
    cases r1
    have hq' : SqT X.K H1 ad xs := by rw [gd.K]; exact hq
    obtain ⟨its, rv, p, hz⟩ := I1.tuple hq'
    refine wpAny_pyIter_tuple (show s1.heap.IsTuple ad its.toArray from p) ?_
    refine ⟨s1.heap.objs.size, [s1.heap.objs.size], _, _, H1, rfl, I1.kept (t' := s1.toks) fun b o e => Heap.get?_push_of_some _ e, turn_tuple ad _, ⟨_, Heap.get?_push_size _ rfl, rfl, rfl⟩, fun b hb => ?_, ?_⟩
    · have e : b = s1.heap.objs.size := by simpa using hb
      subst e
      exact I1.fpOk (Nat.le_refl _) (I1.hok.fresh (Nat.le_refl _))
    · rw [gd.K]; exact q1.it o1 (rIt_tup sq)
theorem si_rng1 (hx : x = Str.ofString "range") (hbl : bltB T g.sc x = true) (ha : SE T cf g a ea) (hs : starB ea = false) : SI T cf g (.rng1 a) tg (.Call (.Name x p) [ea] [] pos) := fun G X W gd => by
  obtain ⟨h1, h2, h3⟩ := gd.blt hbl
  subst hx
  refine (pi_range1 h1 h2 (pa_cons (ha G X W gd) pa_nil (star_cons hs [] X.env)) (star_cons hs [] X.env)).imp fun σ H Q ⟨pr, ph, s, S, rs, o, h⟩ => ?_
  simp only [evalIt] at h
  refine ⟨pr, ph, s, S, rs, o, h.seq.imp fun v H1 ⟨ph1, S1, d, n1, o1, rd, _, h1⟩ => ?_⟩
  obtain ⟨j, hd⟩ : ∃ j, d = .int j := by
    cases d with
    | int j => exact ⟨j, rfl⟩
    | _ => exact h1.elim
  subst hd
  cases rd
  simp only at h1
  by_cases hj : -(2 ^ 62) ≤ j ∧ j < 2 ^ 62
  · rw [if_pos hj] at h1
    exact ⟨j, rfl, hj.1, hj.2, h1.it o1 rIt_rng⟩
  · rw [if_neg hj] at h1
    exact absurd h1 id
theorem si_rng2 (hx : x = Str.ofString "range") (hbl : bltB T g.sc x = true) (ha : SE T cf g a ea) (hb : SE T cf g b eb) (hs : starB ea = false) (hs2 : starB eb = false) : SI T cf g (.rng2 a b) tg (.Call (.Name x p) [ea, eb] [] pos) := fun G X W gd => by
  obtain ⟨h1, h2, h3⟩ := gd.blt hbl
  subst hx
  have e2 := star_cons hs2 [] X.env
  have e1 : starEach [ea, eb] X.env = [(false, eval ea X.env), (false, eval eb X.env)] := by rw [star_cons hs [eb] X.env, e2]; rfl
  refine (pi_range2 h1 h2 (pa_cons (ha G X W gd) (pa_cons (hb G X W gd) pa_nil e2) (star_cons hs [eb] X.env)) e1 e2).imp fun σ H Q ⟨pr, ph, s, S, rs, o, h⟩ => ?_
  simp only [evalIt] at h
  refine ⟨pr, ph, s, S, rs, o, h.seq.imp fun v H1 ⟨ph1, S1, d, n1, o1, rd, _, h1⟩ => ?_⟩
  refine ⟨pr, ph1, s, S1, rs.next n1 o, o1, h1.seq.imp fun v2 H2 ⟨ph2, S2, d2, n2, o2, rd2, _, h2⟩ => ?_⟩
  obtain ⟨i, j, hd, hd2⟩ : ∃ i j, d = .int i ∧ d2 = .int j := by
    split at h2
    · exact ⟨_, _, rfl, rfl⟩
    · exact h2.elim
  subst hd hd2
  cases rd
  cases rd2
  simp only at h2
  by_cases hj : -(2 ^ 62) ≤ i ∧ i < 2 ^ 62 ∧ -(2 ^ 62) ≤ j ∧ j < 2 ^ 62
  · rw [if_pos hj] at h2
    exact ⟨i, j, rfl, hj, h2.it o2 rIt_rng⟩
  · rw [if_neg hj] at h2
    exact h2.elim
theorem si_enum (hx : x = Str.ofString "enumerate") (hbl : bltB T g.sc x = true) (ha : SE T cf g a ea) (hs : starB ea = false) : SI T cf g (.enum a) (.Tuple elts kk tpos) (.Call (.Name x p) [ea] [] pos) := fun G X W gd => by
  obtain ⟨h1, h2, h3⟩ := gd.blt hbl
  subst hx
  refine (pi_enumA h1 h2 (pa_cons (ha G X W gd) pa_nil (star_cons hs [] X.env)) (star_cons hs [] X.env)).imp fun σ H Q ⟨pr, ph, s, S, rs, o, h⟩ => ?_
  simp only [evalIt] at h
  refine ⟨pr, ph, s, S, rs, o, h.seq.imp fun v H1 ⟨ph1, S1, d, n1, o1, rd, _, h1⟩ => ?_⟩
  obtain ⟨src, e, h1⟩ := h1.opt
  cases ht : src.isT with
  | false =>
    obtain ⟨ad, rfl, ⟨xs, hq⟩, sq⟩ := srcL o1 rd e ht
    exact ⟨ad, xs, rfl, .inl ⟨by rw [gd.K]; exact hq, by rw [gd.K]; exact h1.it o1 (rIt_enum sq)⟩⟩
  | true =>
    obtain ⟨ad, rfl, ⟨xs, hq⟩, sq⟩ := srcT o1 rd e ht
    exact ⟨ad, xs, rfl, .inr ⟨by rw [gd.K]; exact hq, by rw [gd.K]; exact h1.it o1 (rIt_enumT sq)⟩⟩
theorem si_zip (hx : x = Str.ofString "zip") (hbl : bltB T g.sc x = true) (ha : SE T cf g a ea) (hb : SE T cf g b eb) (hs : starB ea = false) (hs2 : starB eb = false) : SI T cf g (.zip a b) (.Tuple elts kk tpos) (.Call (.Name x p) [ea, eb] [] pos) := fun G X W gd => by
  obtain ⟨h1, h2, h3⟩ := gd.blt hbl
  subst hx
  have e2 := star_cons hs2 [] X.env
  refine (RZ.pi_zipA h1 h2 (pa_cons (ha G X W gd) (pa_cons (hb G X W gd) pa_nil e2) (star_cons hs [eb] X.env)) (star_cons hs [eb] X.env) (by rw [e2]; rfl)).imp fun σ H Q ⟨pr, ph, s, S, rs, o, h⟩ => ?_
  simp only [evalIt] at h
  refine ⟨pr, ph, s, S, rs, o, h.seq.imp fun v H1 ⟨ph1, S1, d, n1, o1, rd, _, h1⟩ => ?_⟩
  refine ⟨pr, ph1, s, S1, rs.next n1 o, o1, h1.seq.imp fun v2 H2 ⟨ph2, S2, d2, n2, o2, rd2, _, h2⟩ => ?_⟩
  obtain ⟨src, e, h2⟩ := h2.opt
  obtain ⟨src2, e2, h2⟩ := h2.opt
  have rd' := rd.next n2 o1
  split at h2
  · rename_i ht
    cases ht2 : src2.isT with
    | false =>
      obtain ⟨ad, rfl, ⟨xs, hq⟩, sq⟩ := srcL o2 rd' e (ht.trans ht2)
      obtain ⟨ad2, rfl, ⟨xs2, hq2⟩, sq2⟩ := srcL o2 rd2 e2 ht2
      exact ⟨ad, ad2, xs, xs2, rfl, .inl ⟨by rw [gd.K]; exact hq, by rw [gd.K]; exact hq2, by rw [gd.K]; exact h2.it o2 (rIt_zip sq sq2)⟩⟩
    | true =>
      obtain ⟨ad, rfl, ⟨xs, hq⟩, sq⟩ := srcT o2 rd' e (ht.trans ht2)
      obtain ⟨ad2, rfl, ⟨xs2, hq2⟩, sq2⟩ := srcT o2 rd2 e2 ht2
      exact ⟨ad, ad2, xs, xs2, rfl, .inr ⟨by rw [gd.K]; exact hq, by rw [gd.K]; exact hq2, by rw [gd.K]; exact h2.it o2 (rIt_zipT sq sq2)⟩⟩
  · exact h2.elim

/-! ### targets -/
def tgIs : Tg → List Nat
  | .nm i => [i]
  | .tp is => is
def tGt (G : Glb) (c : Tg) : TG := fun v σ H Q => ∃ pr ph s S d s', (G.wp pr).RSl ph H s σ ∧ (G.wp pr).SOk ph S H ∧ (G.wp pr).RD ph H d v ∧ setTg c d s = some s' ∧
  ∀ σ', (G.wp pr).RSl ph H s' σ' → σ'.length = σ.length → (∀ i, i ∉ tgIs c → σ'[i]? = σ[i]?) → Q σ' H
def locB (g : Gam) (x : Str) : Bool := match g.sc.names.lookup x with
  | some .local => true
  | some .cell => g.fn x
  | _ => false
theorem Good.loc (gd : Good G T cf g X W) (h : locB g x = true) : L2.Loc X.env.scope x ∧ (X.fn x = true ∨ X.env.scope.names.lookup x = some .local) := by
  rw [gd.sc, gd.fn]
  unfold locB at h
  unfold L2.Loc
  split at h
  · rename_i e; exact ⟨.inl e, .inr e⟩
  · rename_i e; exact ⟨.inr e, .inl h⟩
  · cases h
theorem RSl.set {K : PySem.W.Frag} {fa pr ph : List Addr} {H : Hp} {s : Sl} {σ : L2.St} {d : D} {v : V} (r : RSl K fa pr ph H s σ) (i : Nat) (h : DI.RD K fa pr ph H d v) : RSl K fa pr ph H (s.set i (some d)) (σ.set i (some v)) := by
  refine ⟨by rw [List.length_set, List.length_set]; exact r.len, fun j e he => ?_⟩
  by_cases hj : i = j
  · subst hj
    by_cases hl : i < s.length
    · rw [List.getElem?_set_self hl] at he
      cases he
      exact ⟨v, by rw [List.getElem?_set_self (by rw [← r.len]; exact hl)], h⟩
    · rw [List.getElem?_eq_none (by simpa using hl)] at he; cases he
  · rw [List.getElem?_set_ne hj] at he
    obtain ⟨v', h1, h2⟩ := r.at_ j e he
    exact ⟨v', by rw [List.getElem?_set_ne hj]; exact h1, h2⟩
theorem pg_nm {i : Nat} (gd : Good G T cf g X W) (hi : g.N[i]? = some x) (hl : locB g x = true) : PG X (.Name x pos) (tGt G (.nm i)) := by
  obtain ⟨h1, h2⟩ := gd.loc hl
  refine ⟨fun pins s0 σ H v u Q I r h => ?_⟩
  obtain ⟨pr, ph, s, S, d, s', rs, o, rd, e, h⟩ := h
  cases e
  refine (pg_name gd.nd (gd.ix hi) h1 h2).run pins s0 σ H v u Q I r ?_
  refine h _ (rs.set i rd) (List.length_set ..) fun j hj => ?_
  exact List.getElem?_set_ne fun e => hj (by simp [tgIs, e])
/-- the names of a tuple, one by one -/
def tGs (G : Glb) (is : List Nat) : TGs := fun vs σ H Q => ∃ pr ph s S ds s', (G.wp pr).RSl ph H s σ ∧ (G.wp pr).SOk ph S H ∧ (G.wp pr).RDs ph H ds vs ∧ setSl is ds s = some s' ∧
  ∀ σ', (G.wp pr).RSl ph H s' σ' → σ'.length = σ.length → (∀ i, i ∉ is → σ'[i]? = σ[i]?) → Q σ' H
def namesB (g : Gam) : List Nat → List Expr → Bool
  | [], [] => true
  | i :: is, .Name x _ :: es => decide (g.N[i]? = some x) && locB g x && namesB g is es
  | _, _ => false
theorem namesB_cons {i : Nat} {is : List Nat} {e : Expr} {es : List Expr} (h : namesB g (i :: is) (e :: es) = true) : ∃ x p, e = .Name x p ∧ g.N[i]? = some x ∧ locB g x = true ∧ namesB g is es = true := by
  cases e with
  | Name x p =>
    simp only [namesB, Bool.and_eq_true, decide_eq_true_eq] at h
    exact ⟨x, p, rfl, h.1.1, h.1.2, h.2⟩
  | _ => cases h
theorem pgs_nms (gd : Good G T cf g X W) : ∀ {is : List Nat} {es : List Expr}, namesB g is es = true → PGs X es (tGs G is)
  | [], [], _ => ⟨fun pins s0 σ H vs us Q I r ⟨pr, ph, s, S, ds, s', rs, o, rd, e, h⟩ => by
    cases ds with
    | nil =>
      cases rd; cases r; cases e
      exact assignInOrder_nil ⟨σ, H, I, h σ rs rfl fun _ _ => rfl⟩
    | cons d ds => cases e⟩
  | i :: is, e :: es, hn => by
    obtain ⟨x, p, rfl, hi, hl, hr⟩ := namesB_cons hn
    obtain ⟨h1, h2⟩ := gd.loc hl
    have ih := pgs_nms gd hr
    refine ⟨fun pins s0 σ H vs us Q I r ⟨pr, ph, s, S, ds, s', rs, o, rd, e, h⟩ => ?_⟩
    cases ds with
    | nil => cases e
    | cons d ds =>
      cases rd with
      | cons rd rds =>
        refine (pgs_cons (pg_name (pos := p) gd.nd (gd.ix hi) h1 h2) ih).run pins s0 σ H _ us Q I r ⟨_, _, rfl, ?_⟩
        refine ⟨pr, ph, _, S, ds, s', rs.set i rd, o, rds, e, fun σ' r1 r2 r3 => h σ' r1 (r2.trans (List.length_set ..)) fun j hj => ?_⟩
        rw [r3 j fun hm => hj (List.mem_cons_of_mem _ hm)]
        exact List.getElem?_set_ne fun e => hj (by rw [e]; exact List.mem_cons_self)
  | [], _ :: _, hn => by cases hn
  | _ :: _, [], hn => by cases hn
theorem each_len : ∀ {is : List Nat} {es : List Expr}, namesB g is es = true → ∀ env, (assignEach es env).length = is.length ∧ (assignEach es env).findIdx? (·.1) = none
  | [], [], _, env => ⟨rfl, rfl⟩
  | i :: is, e :: es, hn, env => by
    obtain ⟨x, p, rfl, hi, hl, hr⟩ := namesB_cons hn
    obtain ⟨h1, h2⟩ := each_len hr env
    have e : assignEach (.Name x p :: es) env = (false, assign (.Name x p) env) :: assignEach es env := rfl
    rw [e]
    refine ⟨by rw [List.length_cons, h1, List.length_cons], ?_⟩
    rw [List.findIdx?_cons]
    simp [h2]
  | [], _ :: _, hn, _ => by cases hn
  | _ :: _, [], hn, _ => by cases hn
theorem setSl_len : ∀ {is : List Nat} {ds : List D} {s s' : Sl}, setSl is ds s = some s' → ds.length = is.length
  | [], [], _, _, _ => rfl
  | i :: is, d :: ds, s, s', h => by rw [List.length_cons, List.length_cons, setSl_len (is := is) (ds := ds) (s := s.set i (some d)) h]
  | [], _ :: _, _, _, h => by cases h
  | _ :: _, [], _, _, h => by cases h
theorem pg_tp {is : List Nat} {es : List Expr} (gd : Good G T cf g X W) (hn : namesB g is es = true) : PG X (.Tuple es k pos) (tGt G (.tp is)) := by
  obtain ⟨e1, e2⟩ := each_len hn X.env
  refine ⟨fun pins s0 σ H v u Q I r h => ?_⟩
  obtain ⟨pr, ph, s, S, d, s', rs, o, rd, e, h⟩ := h
  cases rd with
  | @tup ds ad vs q w =>
    refine (pg_tup (n := is.length) gd.calm (pgs_nms gd hn) e1 e2).run pins s0 σ H _ u Q I r ⟨ad, vs, rfl, by rw [gd.K]; exact q, by rw [← w.length]; exact setSl_len e, ?_⟩
    exact ⟨pr, ph, s, S, ds, s', rs, o, w, e, h⟩
  | _ => cases e
section
variable (T cf g)
def SG (c : Tg) (e : Expr) : Prop := ∀ (G : Glb) (X : Cx) (W : WX), Good G T cf g X W → PG X e (tGt G c)
end
theorem sg_nm {i : Nat} (hi : g.N[i]? = some x) (hl : locB g x = true) : SG T cf g (.nm i) (.Name x pos) := fun G X W gd => pg_nm gd hi hl
theorem sg_tp {is : List Nat} {es : List Expr} (hn : namesB g is es = true) : SG T cf g (.tp is) (.Tuple es k pos) := fun G X W gd => pg_tp gd hn
end
end DI
end
section
set_option maxRecDepth 100000
set_option maxHeartbeats 1000000
/-! DI10: comprehensions. -/
namespace DI
open PySem PySem.Spec PyProof.Rows L2

section
variable {T : Tab} {cf : Nat → List D → Store → R D} {g : Gam} {G : Glb} {X : Cx} {W : WX} {pos p p1 p2 p3 q tpos : Pos} {x : Str} {a b c : E} {ea eb ec tg : Expr} {cs : List E} {es elts : List Expr} {k kk : Nat}
/-- what is known in a comprehension's block -/
def Gam.blk (g : Gam) (scope : Scope) : Gam := ⟨g.N, relS scope g.sc, fun x => scope.names.lookup x == some .cell⟩
theorem Good.blk (gd : Good G T cf g X W) (s : Shared) (H : Hp) (scope : Scope) (C : Addr) (cl : List (Str × Addr)) (fp : List Addr) : Good G T cf (g.blk scope) (X.blk s H scope (compEnvC scope cl C X.env) fp) W0 where
  tab := gd.tab
  prog := gd.prog
  w := gd.w
  K := gd.K
  mg := gd.mg
  base := gd.base
  N := gd.N
  sc := by
    show relS scope X.env.scope = relS scope g.sc
    rw [gd.sc]
  fn := rfl
  nd := gd.nd
  calm := gd.calm
  tk := takes0
  pass := fun _ _ h => h.elim
  units := gd.units
  calls := gd.calls

/-! ### the tests -/
def tIfs (G : Glb) (cf : Nat → List D → Store → R D) (W : WX) (cs : List E) : TT := fun σ H Q => ∃ pr ph s S, (G.wp pr).RSl ph H s σ ∧ (G.wp pr).SOk ph S H ∧ Post (G.wp pr) ph H σ W (fun _ _ a b => a = b) (evalIfs cf cs s S) Q
section
variable (T cf g)
def SIfs (cs : List E) (es : List Expr) : Prop := ∀ (G : Glb) (X : Cx) (W : WX), Good G T cf g X W → PTs X es (tIfs G cf W cs)
end
theorem PTs.imp {t t' : TT} (h : PTs X es t) (f : ∀ σ H Q, t' σ H Q → t σ H Q) : PTs X es t' := ⟨fun pins s σ H Q I q => h.run pins s σ H Q I (f σ H Q q)⟩
theorem sifs_nil : SIfs T cf g [] [] := fun G X W gd => PTs.imp pts_nil fun σ H Q ⟨pr, ph, s, S, rs, o, h⟩ => by
  simp only [evalIfs] at h
  exact Post.ok h o rfl
theorem sifs_one (hc : SeT T cf g c ec) : SIfs T cf g [c] [ec] := fun G X W gd => PTs.imp (pts_one (hc G X W gd)) fun σ H Q ⟨pr, ph, s, S, rs, o, h⟩ => by
  simp only [evalIfs] at h
  exact ⟨pr, ph, s, S, rs, o, h⟩

/-! ### the loop of a block -/
section
variable {pr ph1 phb ph : List Addr} {H1 Hb H : Hp} {Da : Addr} {S : Store} {acc : List D}
/-- the state: the new list at Da holds acc -/
def StC (G : Glb) (pr : List Addr) (Da : Addr) (ph1 : List Addr) (H1 : Hp) (ph : List Addr) (acc : List D) (S : Store) (H : Hp) : Prop :=
  ∃ vs, Nxt ph1 H1 ph H ∧ (G.wp (Da :: pr)).SOk ph S H ∧ H Da = some (.lst vs) ∧ (G.wp (Da :: pr)).RDs ph H acc vs
def PostC (G : Glb) (pr : List Addr) (Da : Addr) (ph1 : List Addr) (H1 : Hp) (r : R (List D)) (Fin : Hp → Prop) : Prop := match r with
  | .ok acc S => ∀ ph H, StC G pr Da ph1 H1 ph acc S H → Fin H
  | _ => False
theorem StC.next {ph' : List Addr} {H' : Hp} {S' : Store} (h : StC G pr Da ph1 H1 ph acc S H) (n : Nxt ph H ph' H') (o : (G.wp (Da :: pr)).SOk ph' S' H') : StC G pr Da ph1 H1 ph' acc S' H' := by
  obtain ⟨vs, n1, o1, hD, w⟩ := h
  exact ⟨vs, n1.trans n, o, n.ext _ _ hD (o1.prs Da List.mem_cons_self).1, w.next n o1⟩
/-- the turns of a block -/
theorem loopG {src : Src} {J : L2.It} {tgc : Tg} {ts : Sl → Store → R Bool} {f : Sl → List D → Store → R (List D)} {s : Sl} {σ0 : L2.St} {vs : List Nat} {tt : TT} {El : L2.St → Hp → (Hp → Prop) → Prop} {Fin : Hp → Prop} {So Sb : Store}
    (o1 : (G.wp pr).SOk ph1 So H1) (hp1 : Prk pr H1 (Da :: pr)) {prb : List Addr} (ob : (G.wp prb).SOk phb Sb Hb) (hpb : Prk prb Hb (Da :: pr)) (hsub : ∀ a, a ∈ prb → a ∈ Da :: pr)
    (rit : RIt (G.wp prb) phb Hb src J) (rs : (G.wp prb).RSl phb Hb s (wipe σ0 vs)) (htg : ∀ i, i ∈ tgIs tgc → i ∈ vs)
    (htt : ∀ ph S H σ2 s2 Q, (G.wp (Da :: pr)).RSl ph H s2 σ2 → (G.wp (Da :: pr)).SOk ph S H → Post (G.wp (Da :: pr)) ph H σ2 W0 (fun _ _ a b => a = b) (ts s2 S) Q → tt σ2 H Q)
    (hel : ∀ ph S H σ2 s2 acc (Nx : Hp → Prop), NxtP prb phb Hb ph H → (G.wp (Da :: pr)).RSl ph H s2 σ2 → StC G pr Da ph1 H1 ph acc S H → PostC G pr Da ph1 H1 (f s2 acc S) (fun H' => (∃ ph' acc' S', NxtP prb phb Hb ph' H' ∧ StC G pr Da ph1 H1 ph' acc' S' H' ∧ f s2 acc S = .ok acc' S') → Nx H') → El σ2 H Nx)
    {n : Nat} {acc : List D} {S : Store} {H : Hp} (h0 : ∃ ph, NxtP prb phb Hb ph H ∧ StC G pr Da ph1 H1 ph acc S H) (hF : PostC G pr Da ph1 H1 (compG src tgc ts f s n 0 acc S) fun H' => (∃ ph', NxtP prb phb Hb ph' H') → Fin H') :
    ∃ W : Nat → Nat → Hp → Prop, (∃ m, W 0 m H) ∧ ∀ i m H, W i m H →
      (J.stop i H ∧ Fin H) ∨ (J.go i H ∧ ∃ Nx : Hp → Prop, (∀ H', Nx H' → ∃ m', m' < m ∧ W (i + 1) m' H') ∧ ∀ x H', J.yld i H x H' → tGt G tgc x (wipe σ0 vs) H' fun σ2 H2 => wipe σ2 vs = wipe σ0 vs ∧ tt σ2 H2 fun b H3 => if b = true then El σ2 H3 Nx else Nx H3) := by
  refine ⟨fun i m H => ∃ ph acc S, NxtP prb phb Hb ph H ∧ StC G pr Da ph1 H1 ph acc S H ∧ PostC G pr Da ph1 H1 (compG src tgc ts f s m i acc S) fun H' => (∃ ph', NxtP prb phb Hb ph' H') → Fin H', ⟨n, ?_⟩, ?_⟩
  · obtain ⟨ph, n0, st⟩ := h0
    exact ⟨ph, acc, S, n0, st, hF⟩
  · rintro i m H ⟨ph, acc, S, nb, st, hF⟩
    obtain ⟨ws, n1, o2, hD, w⟩ := id st
    have tr : ∀ {ph H ph' H'} {S : Store}, NxtP prb phb Hb ph H → (G.wp (Da :: pr)).SOk ph S H → Nxt ph H ph' H' → NxtP prb phb Hb ph' H' := fun {ph H ph' H' S} nb o n => nb.trans hpb (n.p (pr := Da :: pr)) fun x hx => by
      obtain ⟨_, vs, e⟩ := ob.prs x hx
      obtain ⟨_, ws, e'⟩ := o.prs x (hsub x hx)
      exact ⟨vs, e, ws, e'⟩
    have hit := rit (Da :: pr) ph H S i hpb nb o2
    have stop : (hs : src.at S i = some none) → PostC G pr Da ph1 H1 (.ok acc S) (fun H' => (∃ ph', NxtP prb phb Hb ph' H') → Fin H') → J.stop i H ∧ Fin H := fun hs hq => by
      rw [hs] at hit
      exact ⟨hit, hq ph H st ⟨ph, nb⟩⟩
    cases m with
    | zero =>
      unfold compG at hF
      split at hF
      · rename_i e; exact .inl (stop e hF)
      · exact hF.elim
    | succ m =>
      unfold compG at hF
      split at hF
      · exact hF.elim
      · rename_i e; exact .inl (stop e hF)
      · rename_i d e
        split at hF
        · exact hF.elim
        · rename_i s1 e1
          rw [e] at hit
          obtain ⟨go, yl⟩ := hit
          refine .inr ⟨go, fun H' => ∃ ph acc S, NxtP prb phb Hb ph H' ∧ StC G pr Da ph1 H1 ph acc S H' ∧ PostC G pr Da ph1 H1 (compG src tgc ts f s m (i + 1) acc S) fun H' => (∃ ph', NxtP prb phb Hb ph' H') → Fin H',
            fun H' h' => ⟨m, Nat.lt_succ_self m, h'⟩, fun x H' y => ?_⟩
          obtain ⟨n3, o3, rd⟩ := yl x H' y
          have st3 := st.next n3 o3
          refine ⟨Da :: pr, ph, _, S, d, s1, rs.nwp (tr nb o2 n3) ob hpb, o3, rd, e1, fun σ2 rs2 hl hag => ⟨?_, ?_⟩⟩
          · -- only the block's own names
            apply List.ext_getElem?
            intro j
            by_cases hj : j ∈ vs
            · have key : ∀ (σ : L2.St), σ.length = σ0.length → (wipe σ vs)[j]? = if j < σ0.length then some none else none := fun σ hσ => by
                have hlen : (wipe σ vs).length = σ0.length := by rw [wipe_length, hσ]
                by_cases hlt : j < σ0.length
                · rw [if_pos hlt]
                  cases e : (wipe σ vs)[j]? with
                  | none => rw [List.getElem?_eq_none_iff, hlen] at e; omega
                  | some v =>
                    cases v with
                    | none => rfl
                    | some v => exact absurd hj (wipe_some e).2
                · rw [if_neg hlt, List.getElem?_eq_none (by rw [hlen]; omega)]
              rw [key σ2 (by rw [hl, wipe_length]), key σ0 rfl]
            · rw [wipe_out hj, hag j fun hm => hj (htg j hm)]
          · refine htt ph S H' σ2 s1 _ rs2 o3 ?_
            split at hF
            · rename_i S1 e2
              rw [e2]
              refine fun ph' H'' b n4 o4 eb => ?_
              subst eb
              have st4 := st3.next n4 o4
              rw [if_pos rfl]
              refine hel ph' S1 H'' σ2 s1 acc _ (tr (tr nb o2 n3) o3 n4) (rs2.next n4 o3) st4 ?_
              split at hF
              · rename_i acc2 S2 e3
                rw [e3]
                refine fun ph5 H5 st5 h5 => ?_
                obtain ⟨ph6, acc6, S6, n6, st6, e6⟩ := h5
                cases e6
                exact ⟨ph6, acc2, S2, n6, st6, hF⟩
              · exact hF.elim
            · rename_i S1 e2
              rw [e2]
              refine fun ph' H'' b n4 o4 eb => ?_
              subst eb
              have st4 := st3.next n4 o4
              rw [if_neg Bool.false_ne_true]
              exact ⟨ph', acc, S1, tr (tr nb o2 n3) o3 n4, st4, hF⟩
            · exact hF.elim

/-! ### the new list -/
theorem NxtP.refl {pr ph : List Addr} {H : Hp} : NxtP pr ph H ph H := Nxt.refl.p
theorem NxtP.upd {pr ph : List Addr} {H : Hp} {Da : Addr} {o : HO} (h : Da ∈ pr ∨ H Da = none) : NxtP pr ph H ph (upd H Da o) := ⟨⟨[], by simp⟩, fun _ h n => absurd h n, fun a u e _ hr => by
  rw [upd_ne fun z => by
    subst z
    rcases h with h | h
    · exact hr h
    · rw [e] at h; cases h]
  exact e⟩
theorem SOk.not (o : G.SOk ph S H) {a : Addr} (h : H a = none) : a ∉ ph := fun hm => by
  obtain ⟨vs, e, _⟩ := o.get hm
  rw [h] at e; cases e
theorem SOk.notp (o : G.SOk ph S H) {a : Addr} (h : H a = none) : a ∉ G.pr := fun hm => by
  obtain ⟨_, vs, e⟩ := o.prs a hm
  rw [h] at e; cases e
theorem prk_cons {pr : List Addr} {H : Hp} {Da : Addr} (h : H Da = none) : Prk pr H (Da :: pr) := fun a ha => by
  rcases List.mem_cons.mp ha with e | ha
  · rw [e]; exact .inr h
  · exact .inl ha
/-- cells of the store, later -/
theorem SOk.nwp {pr pr' : List Addr} {H' : Hp} (o : (G.wp pr).SOk ph S H) (n : NxtP pr ph H ph H') (hp : Prk pr H pr') (hc : ∀ a, a ∈ ph → H' a = H a) (hp' : ∀ a, a ∈ pr' → a ∉ ph ∧ ∃ vs, H' a = some (.lst vs)) : (G.wp pr').SOk ph S H' := by
  refine ⟨o.len, o.nd, fun k c a h1 h2 => ?_, hp'⟩
  obtain ⟨vs, e, sh, w⟩ := o.cell k c a h1 h2
  exact ⟨vs, (hc a (List.mem_of_getElem? h2)).trans e, sh, w.nwp n o hp⟩
/-- the new list begins -/
theorem SOk.begin {pr : List Addr} {Da : Addr} (o : (G.wp pr).SOk ph S H) (h : H Da = none) : (G.wp (Da :: pr)).SOk ph S (upd H Da (.lst [])) :=
  o.nwp (.upd (.inr h)) (prk_cons h) (fun a ha => upd_ne fun z => o.not h (z ▸ ha)) fun a ha => by
    rcases List.mem_cons.mp ha with e | ha
    · rw [e]; exact ⟨o.not h, [], upd_same⟩
    · obtain ⟨h1, vs, e⟩ := o.prs a ha
      exact ⟨h1, vs, by rw [upd_ne (ne_of_none e h)]; exact e⟩
/-- it has one item more -/
theorem SOk.put {pr : List Addr} {Da : Addr} {vs : List V} (o : (G.wp (Da :: pr)).SOk ph S H) : (G.wp (Da :: pr)).SOk ph S (upd H Da (.lst vs)) :=
  o.nwp (.upd (.inl List.mem_cons_self)) (fun a ha => .inl ha) (fun a ha => upd_ne fun z => (o.prs Da List.mem_cons_self).1 (z ▸ ha)) fun a ha => by
    by_cases e : a = Da
    · rw [e]; exact ⟨(o.prs Da List.mem_cons_self).1, vs, upd_same⟩
    · obtain ⟨h1, ws, q⟩ := o.prs a ha
      exact ⟨h1, ws, by rw [upd_ne e]; exact q⟩
/-- it is done, a list of its own -/
theorem SOk.done {pr : List Addr} {Da : Addr} (o : (G.wp (Da :: pr)).SOk ph S H) : (G.wp pr).SOk ph S H :=
  o.nwp .refl (fun a ha => .inl (List.mem_cons_of_mem _ ha)) (fun _ _ => rfl) fun a ha => o.prs a (List.mem_cons_of_mem _ ha)
mutual
theorem RD.adopt {K : PySem.W.Frag} {fa pr ph : List Addr} {H : Hp} {Da : Addr} : ∀ {d : D} {v : V}, DI.RD K fa (Da :: pr) ph H d v → DI.RD K fa pr (ph ++ [Da]) H d v
  | _, _, .non => .non
  | _, _, .bl b => .bl b
  | _, _, .int b => .int b
  | _, _, .str b => .str b
  | _, _, .tup q r => .tup q (RDs.adopt r)
  | _, _, .fl h1 h2 h3 r => .fl (fun hm => (List.mem_append.mp hm).elim h1 fun z => h2 (by rw [List.mem_singleton.mp z]; exact List.mem_cons_self)) (fun hm => h2 (List.mem_cons_of_mem _ hm)) h3 (RDs.adopt r)
  | _, _, .kl h r => .kl (h.elim (fun ⟨h1, h2, h3⟩ => .inl ⟨fun hm => (List.mem_append.mp hm).elim h1 fun z => h2 (by rw [List.mem_singleton.mp z]; exact List.mem_cons_self), fun hm => h2 (List.mem_cons_of_mem _ hm), h3⟩) .inr) (RDs.adopt r)
  | _, _, .dct h => .dct (by rw [List.getElem?_append_left (List.getElem?_eq_some_iff.mp h).1]; exact h)
  | _, _, .lst h => .lst (by rw [List.getElem?_append_left (List.getElem?_eq_some_iff.mp h).1]; exact h)
  | _, _, .fn h => .fn h
theorem RDs.adopt {K : PySem.W.Frag} {fa pr ph : List Addr} {H : Hp} {Da : Addr} : ∀ {ds : List D} {vs : List V}, DI.RDs K fa (Da :: pr) ph H ds vs → DI.RDs K fa pr (ph ++ [Da]) H ds vs
  | _, _, .nil => .nil
  | _, _, .cons h r => .cons (RD.adopt h) (RDs.adopt r)
end
theorem SOk.adopt {pr : List Addr} {Da : Addr} {ds : List D} {vs : List V} (o : (G.wp (Da :: pr)).SOk ph S H) (hp : Da ∉ pr) (h : H Da = some (.lst vs)) (w : (G.wp (Da :: pr)).RDs ph H ds vs) : (G.wp pr).SOk (ph ++ [Da]) (S ++ [.lst ds]) H := by
  have hn := (o.prs Da List.mem_cons_self).1
  refine ⟨by rw [List.length_append, List.length_append, o.len]; rfl, ?_, fun k c a h1 h2 => ?_, fun a ha => ?_⟩
  · rw [List.nodup_append]
    exact ⟨o.nd, by simp, fun a ha b hb z => hn (by rw [List.mem_singleton.mp hb] at z; rw [← z]; exact ha)⟩
  · by_cases hk : k < S.length
    · rw [List.getElem?_append_left hk] at h1
      rw [List.getElem?_append_left (by rw [o.len]; exact hk)] at h2
      obtain ⟨ws, e, sh, w'⟩ := o.cell k c a h1 h2
      exact ⟨ws, e, sh, w'.adopt⟩
    · have hk' : k = S.length := by
        have := (List.getElem?_eq_some_iff.mp h1).1
        rw [List.length_append, List.length_singleton] at this
        omega
      subst hk'
      rw [List.getElem?_append_right (Nat.le_refl _)] at h1
      rw [← o.len, List.getElem?_append_right (Nat.le_refl _)] at h2
      simp at h1 h2
      subst h1 h2
      exact ⟨.lst vs, h, True.intro, w.adopt⟩
  · obtain ⟨h1, ws, e⟩ := o.prs a (List.mem_cons_of_mem _ ha)
    refine ⟨fun hm => (List.mem_append.mp hm).elim h1 fun z => hp ?_, ws, e⟩
    rw [← List.mem_singleton.mp z]; exact ha
theorem compG_calm {src : Src} {tg : Tg} {ts : Sl → Store → R Bool} {f : Sl → List D → Store → R (List D)} {s : Sl} : ∀ (n i : Nat) (acc : List D) (S : Store) {c : Nat} {pl : List (List Nat × D)} {S' : Store}, compG src tg ts f s n i acc S ≠ .ex c pl S'
  | 0, i, acc, S, c, pl, S', h => by
    unfold compG at h
    split at h <;> cases h
  | n + 1, i, acc, S, c, pl, S', h => by
    unfold compG at h
    split at h
    · cases h
    · cases h
    · split at h
      · cases h
      · split at h
        · split at h
          · exact compG_calm n _ _ _ h
          · cases h
        · exact compG_calm n _ _ _ h
        · cases h
theorem wipe_rsl {K : PySem.W.Frag} {fa pr ph : List Addr} {H : Hp} {s : Sl} {σ : L2.St} (r : RSl K fa pr ph H s σ) : ∀ vs : List Nat, RSl K fa pr ph H (wipeD s vs) (wipe σ vs)
  | [] => r
  | v :: vs => by
    have ih := wipe_rsl r vs
    unfold wipeD wipe
    refine ⟨by rw [List.length_set, List.length_set]; exact ih.len, fun i d h => ?_⟩
    by_cases hi : v = i
    · subst hi
      by_cases hl : v < (wipeD s vs).length
      · rw [List.getElem?_set_self hl] at h; cases h
      · rw [List.getElem?_eq_none (by simpa using hl)] at h; cases h
    · rw [List.getElem?_set_ne hi] at h
      obtain ⟨w, h1, h2⟩ := ih.at_ i d h
      exact ⟨w, by rw [List.getElem?_set_ne hi]; exact h1, h2⟩
/-- what is done with the new list -/
theorem fin_mk {pr ph1 ph : List Addr} {H1 H : Hp} {Da : Addr} {S : Store} {σ : L2.St} {ds : List D} {t : Bool} {Q : VK} (hD : H1 Da = none) (hp : Da ∉ pr) (h : Post (G.wp pr) ph1 H1 σ W (G.wp pr).RD (mk t ds S) Q) (st : StC G pr Da ph1 H1 ph ds S H) : Q (.ref Da) H := by
  obtain ⟨vs, n1, o, hh, w⟩ := st
  unfold mk at h
  split at h
  · split at h
    · refine h (ph ++ [Da]) H _ ⟨?_, fun a ha hn => ?_, n1.ext⟩ (o.adopt hp hh w) (.lst ?_)
      · obtain ⟨p, e⟩ := n1.app
        exact ⟨p ++ [Da], by rw [e, List.append_assoc]⟩
      · rcases List.mem_append.mp ha with z | z
        · exact n1.new a z hn
        · rw [List.mem_singleton.mp z]; exact hD
      · rw [← o.len]; simp
    · exact h ph H _ n1 o.done (.fl (o.prs Da List.mem_cons_self).1 hp hh (w.nwp .refl o fun a ha => .inl (List.mem_cons_of_mem _ ha)))
  · exact h.elim
/-- one item more -/
theorem hel_put {pr ph1 phb ph prb : List Addr} {H1 Hb H : Hp} {Da : Addr} {S : Store} {σ2 : L2.St} {s2 : Sl} {acc : List D} {Nx : Hp → Prop} {elt : E} (hD : H1 Da = none) (hpb : Prk prb Hb (Da :: pr)) (hsub : ∀ a, a ∈ prb → a ∈ Da :: pr) {Sb : Store} (ob : (G.wp prb).SOk phb Sb Hb)
    (nb : NxtP prb phb Hb ph H) (rs : (G.wp (Da :: pr)).RSl ph H s2 σ2) (st : StC G pr Da ph1 H1 ph acc S H)
    (h : PostC G pr Da ph1 H1 (putD acc (evalE cf elt s2 S)) (fun H' => (∃ ph' acc' S', NxtP prb phb Hb ph' H' ∧ StC G pr Da ph1 H1 ph' acc' S' H' ∧ putD acc (evalE cf elt s2 S) = .ok acc' S') → Nx H')) :
    tE G cf W0 elt σ2 H fun y H4 => ∃ acc, H4 Da = some (.lst acc) ∧ acc.length < sizeLine ∧ Nx (upd H4 Da (.lst (acc ++ [y]))) := by
  obtain ⟨vs, n1, o, hh, w⟩ := id st
  refine ⟨Da :: pr, ph, s2, S, rs, o, ?_⟩
  cases e : evalE cf elt s2 S with
  | no => rw [e] at h; exact h.elim
  | ex c pl S' => rw [e] at h; exact h.elim
  | ok y S' =>
    rw [e] at h
    unfold putD at h
    simp only at h
    split at h
    · rename_i hl
      refine fun ph' H' b n o' rd => ?_
      obtain ⟨vs', n1', o2, hh', w'⟩ := st.next n o'
      have nD : NxtP (Da :: pr) ph' H' ph' (upd H' Da (.lst (vs' ++ [b]))) := .upd (.inl List.mem_cons_self)
      have st' : StC G pr Da ph1 H1 ph' (acc ++ [y]) S' (upd H' Da (.lst (vs' ++ [b]))) :=
        ⟨vs' ++ [b], ⟨n1'.app, n1'.new, fun a u q hn => by rw [upd_ne (ne_of_none q hD)]; exact n1'.ext a u q hn⟩, o'.put, upd_same, (w'.append (.cons rd .nil)).nwp nD o' fun a ha => .inl ha⟩
      refine ⟨vs', hh', by rw [← w'.length, ← limEq]; exact hl, h ph' _ st' ⟨ph', _, _, ?_, st', rfl⟩⟩
      have n2 : NxtP prb phb Hb ph' H' := nb.trans hpb (n.p (pr := Da :: pr)) fun x hx => by
        obtain ⟨_, ws, e⟩ := ob.prs x hx
        obtain ⟨_, us, e'⟩ := o.prs x (hsub x hx)
        exact ⟨ws, e, us, e'⟩
      refine n2.trans hpb nD fun x hx => ?_
      obtain ⟨_, ws, e⟩ := ob.prs x hx
      obtain ⟨_, us, e'⟩ := o'.prs x (hsub x hx)
      exact ⟨ws, e, us, e'⟩
    · exact h.elim
/-- the reading of a comprehension -/
theorem lc_read {t : Bool} {elt : E} {tgc : Tg} {it : It} {ifs : List E} {vs : List Nat} (htg : ∀ i, i ∈ tgIs tgc → i ∈ vs) {σ : L2.St} {H : Hp} {Q : VK} (h : tE G cf W (.cmph t elt tgc it ifs vs) σ H Q) :
    tLc (tI G cf W it) (tGt G tgc) (tIfs G cf W0 ifs) (tE G cf W0 elt) vs σ H Q := by
  obtain ⟨pr, ph, s, S, rs, o, h⟩ := h
  simp only [evalE] at h
  refine ⟨pr, ph, s, S, rs, o, (h.seq (Ra := fun ph' H' src J => RIt (G.wp pr) ph' H' src J)).imp fun J H1 ⟨ph1, S1, src, n1, o1, rit, _, h1⟩ Da hD => ?_⟩
  have hp := o1.notp hD
  refine loopG (vs := vs) o1 (prk_cons hD) o1 (prk_cons hD) (fun a ha => List.mem_cons_of_mem _ ha) rit (wipe_rsl (rs.next n1 o) vs) htg (fun ph S H σ2 s2 Q rs2 o2 q => ⟨_, _, _, _, rs2, o2, q⟩)
    (fun ph S H σ2 s2 acc Nx nb rs2 st q => hel_put hD (prk_cons hD) (fun a ha => List.mem_cons_of_mem _ ha) o1 nb rs2 st q) (n := src.len S1) (acc := []) (S := S1) ⟨ph1, .upd (.inr hD), [], Nxt.laid hD, o1.begin hD, upd_same, .nil⟩ ?_
  cases e : compG src tgc (fun s2 S2 => evalIfs cf ifs s2 S2) (fun s2 acc S2 => putD acc (evalE cf elt s2 S2)) (wipeD s vs) (src.len S1) 0 [] S1 with
  | no => rw [e] at h1; exact h1.elim
  | ex c pl S' => exact absurd e (compG_calm _ _ _ _)
  | ok ds S2 =>
    rw [e] at h1
    exact fun ph' H' st _ => fin_mk hD hp h1 st
theorem set_none' {e : Expr} (h : setB e = false) (env : Env) : ∀ x, foldedSetIterable e env x = pure x := fun x => set_none h env x
variable {t : Bool} {elt : E} {tgc tgc1 : Tg} {it it1 : It} {ifs ifs1 : List E} {scope : Scope} {own : List (Str × Nat)} {iter iter1 tg1 : Expr} {eifs eifs1 : List Expr}
theorem se_cmph (hi : SI T cf g it tg iter) (ok : blkC g.N g.sc scope own = true) (hg : SG T cf (g.blk scope) tgc tg) (ht : SIfs T cf (g.blk scope) ifs eifs) (he : SE T cf (g.blk scope) elt ea) (hs : setB iter = false) (htg : ∀ i, i ∈ tgIs tgc → i ∈ own.map (·.2)) :
    SE T cf g (.cmph t elt tgc it ifs (own.map (·.2))) (.ListComp ea [⟨tg, iter, eifs, 0⟩] scope pos) := fun G X W gd =>
  (pe_lc gd.calm gd.nd (hi G X W gd) (by rw [gd.N, gd.sc]; exact blkOk_by ok) (fun s H C cl fp => hg G _ W0 (gd.blk s H scope C cl fp)) (fun s H C cl fp => ht G _ W0 (gd.blk s H scope C cl fp)) (fun s H C cl fp => he G _ W0 (gd.blk s H scope C cl fp)) (set_none' hs X.env)).imp fun σ H Q h => lc_read htg h
end
end
end DI
end
section
set_option maxRecDepth 100000
set_option maxHeartbeats 1000000
/-! DI11: statements. -/
namespace DI
open PySem PySem.Spec PyProof.Rows L2

def tS (G : Glb) (cf : Nat → List D → Store → R D) (n : Nat) (W : WX) (c : St) : TS := fun Dn σ H => ∃ pr ph s S, (G.wp pr).RSl ph H s σ ∧ (G.wp pr).SOk ph S H ∧ PostF (G.wp pr) ph H W (exec cf n c s S) Dn
def tSs (G : Glb) (cf : Nat → List D → Store → R D) (n : Nat) (W : WX) (c : List St) : TS := fun Dn σ H => ∃ pr ph s S, (G.wp pr).RSl ph H s σ ∧ (G.wp pr).SOk ph S H ∧ PostF (G.wp pr) ph H W (execs cf n c s S) Dn
/-- a statement's frame is the def's own -/
structure GoodS (G : Glb) (T : Tab) (cf : Nat → List D → Store → R D) (g : Gam) (X : Cx) (W : WX) : Prop extends Good G T cf g X W where
  stk : X.stack = X.env :: X.outer
  frm : X.env.frame = some X.env.locals
section
variable (T : Tab) (cf : Nat → List D → Store → R D) (n : Nat) (g : Gam)
def SS (c : St) (st : Stmt) : Prop := ∀ (G : Glb) (X : Cx) (W : WX), GoodS G T cf g X W → PS X st (tS G cf n W c)
def SSs (cs : List St) (st : List Stmt) : Prop := ∀ (G : Glb) (X : Cx) (W : WX), GoodS G T cf g X W → PSs X st (tSs G cf n W cs)
end
section
variable {X : Cx} {st : Stmt} {t t' : TS}
theorem _root_.L2.PS.imp (h : PS X st t) (f : ∀ Dn σ H, t' Dn σ H → t Dn σ H) : PS X st t' := ⟨fun pins s σ H Dn I q => h.run pins s σ H Dn I (f Dn σ H q)⟩
theorem _root_.L2.PSs.imp {sts : List Stmt} (h : PSs X sts t) (f : ∀ Dn σ H, t' Dn σ H → t Dn σ H) : PSs X sts t' := ⟨fun pins s σ H Dn I q => h.run pins s σ H Dn I (f Dn σ H q)⟩
end
section
variable {T : Tab} {cf : Nat → List D → Store → R D} {n : Nat} {g : Gam} {G : Glb} {X : Cx} {W : WX} {pos p p1 p2 p3 q tpos : Pos} {x : Str} {a b c : E} {ea eb ec tg : Expr} {cs : List E} {es elts : List Expr} {k kk i : Nat} {st : Stmt} {sts sts' : List Stmt} {cc : St} {ccs ccs' : List St}

theorem sss_nil : SSs T cf n g [] [] := fun G X W gd => pss_nil.imp fun Dn σ H ⟨pr, ph, s, S, rs, o, h⟩ => by
  simp only [execs] at h
  exact h ph H σ .refl o rs
theorem sss_cons (h1 : SS T cf n g cc st) (h2 : SSs T cf n g ccs sts) : SSs T cf n g (cc :: ccs) (st :: sts) := fun G X W gd => (pss_cons (h1 G X W gd) (h2 G X W gd)).imp fun Dn σ H ⟨pr, ph, s, S, rs, o, h⟩ => by
  simp only [execs] at h
  refine ⟨pr, ph, s, S, rs, o, ?_⟩
  cases e : exec cf n cc s S with
  | nx s1 S1 =>
    rw [e] at h
    exact fun ph' H' σ' n' o' rs' => ⟨pr, ph', s1, S1, rs', o', PostF.from (by exact h) n'⟩
  | rt d S1 => rw [e] at h; exact h
  | bk s1 S1 => rw [e] at h; exact h
  | ct s1 S1 => rw [e] at h; exact h
  | ex c pl s1 S1 => rw [e] at h; exact h
  | no => rw [e] at h; exact h
theorem ss_pass : SS T cf n g .pass (.Pass pos) := fun G X W gd => ps_pass.imp fun Dn σ H ⟨pr, ph, s, S, rs, o, h⟩ => by
  simp only [exec] at h
  exact h ph H σ .refl o rs
theorem ss_brk : SS T cf n g .brk (.Break pos) := fun G X W gd => ps_break.imp fun Dn σ H ⟨pr, ph, s, S, rs, o, h⟩ => by
  simp only [exec] at h
  exact h ph H σ .refl o rs
theorem ss_cnt : SS T cf n g .cnt (.Continue pos) := fun G X W gd => ps_continue.imp fun Dn σ H ⟨pr, ph, s, S, rs, o, h⟩ => by
  simp only [exec] at h
  exact h ph H σ .refl o rs
theorem ss_retN : SS T cf n g .retN (.Return none pos) := fun G X W gd => ps_retN.imp fun Dn σ H ⟨pr, ph, s, S, rs, o, h⟩ => by
  simp only [exec] at h
  exact h ph H .non .refl o .non
theorem ss_ret (ha : SE T cf g a ea) : SS T cf n g (.ret a) (.Return (some ea) pos) := fun G X W gd => (ps_ret (ha G X W gd.toGood)).imp fun Dn σ H ⟨pr, ph, s, S, rs, o, h⟩ => by
  simp only [exec] at h
  refine ⟨pr, ph, s, S, rs, o, (PostF.seq (Ra := (G.wp pr).RD) (fun n1 => rs.next n1 o) h).imp fun v H1 ⟨ph1, S1, d, n1, o1, rd, _, h1⟩ => ?_⟩
  exact h1 ph1 H1 v .refl o1 rd
/-- swapsWith -/
def compB : Expr → Bool
  | .ListComp .. => true | .SetComp .. => true | .DictComp .. => true | _ => false
theorem swaps_none {e : Expr} (h : compB e = false) (t : Option Expr) (l : Nat) (env : Env) : swapsWith e t l env = pure false := by
  cases e <;> first | rfl | cases h
theorem sole_none {e : Expr} (h : compB e = false) (t : Expr) (l : Nat) (env : Env) : swapsWithSole [t] e l env = pure false := swaps_none h (some t) l env
theorem sole_tup {ts : List Expr} {k : Nat} {p : Pos} (e : Expr) (l : Nat) (env : Env) : swapsWithSole [.Tuple ts k p] e l env = pure false := by
  cases e <;> rfl
theorem sole_sub {a b : Expr} {p : Pos} (e : Expr) (l : Nat) (env : Env) : swapsWithSole [.Subscript a b p] e l env = pure false := by
  cases e <;> rfl
theorem swaps_sub {a b : Expr} {p : Pos} (e : Expr) (l : Nat) (env : Env) : swapsWith e (some (.Subscript a b p)) l env = pure false := by
  cases e <;> rfl
theorem ss_ex (ha : SE T cf g a ea) (hs : compB ea = false) : SS T cf n g (.ex a) (.Expr ea pos) := fun G X W gd => (ps_expr (ha G X W gd.toGood) (swaps_none hs _ _ _)).imp fun Dn σ H ⟨pr, ph, s, S, rs, o, h⟩ => by
  simp only [exec] at h
  refine ⟨pr, ph, s, S, rs, o, (PostF.seq (Ra := (G.wp pr).RD) (fun n1 => rs.next n1 o) h).imp fun v H1 ⟨ph1, S1, d, n1, o1, rd, _, h1⟩ => ?_⟩
  exact h1 ph1 H1 σ .refl o1 (rs.next n1 o)
theorem asg_read {i : Nat} {Dn : Ends} {σ : L2.St} {H : Hp} (h : tS G cf n W (.asg i a) Dn σ H) : tE G cf W a σ H fun v H1 => Dn.nx (σ.set i (some v)) H1 := by
  obtain ⟨pr, ph, s, S, rs, o, h⟩ := h
  simp only [exec] at h
  refine ⟨pr, ph, s, S, rs, o, (PostF.seq (Ra := (G.wp pr).RD) (fun n1 => rs.next n1 o) h).imp fun v H1 ⟨ph1, S1, d, n1, o1, rd, _, h1⟩ => ?_⟩
  exact h1 ph1 H1 _ .refl o1 ((rs.next n1 o).set i rd)
/-- name = e, e no comprehension -/
theorem ss_asg (hi : g.N[i]? = some x) (hl : locB g x = true) (ha : SE T cf g a ea) (hs : compB ea = false) : SS T cf n g (.asg i a) (.Assign [.Name x p] ea pos) := fun G X W gd => by
  obtain ⟨h1, h2⟩ := gd.loc hl
  exact (ps_set gd.nd (gd.ix hi) h1 (ha G X W gd.toGood) (swaps_none hs _ _ _) h2).imp fun Dn σ H h => asg_read h
def plB (g : Gam) (x : Str) : Bool := match g.sc.names.lookup x with | some .local => true | _ => false
theorem Good.pl (gd : Good G T cf g X W) (h : plB g x = true) : X.env.scope.names.lookup x = some .local := by
  rw [gd.sc]
  unfold plB at h
  split at h
  · assumption
  · cases h
def funB (g : Gam) : Bool := match g.sc.kind with | .function => true | _ => false
theorem Good.fun (gd : Good G T cf g X W) (h : funB g = true) : X.env.scope.kind = .function := by
  rw [gd.sc]
  unfold funB at h
  split at h
  · assumption
  · cases h
theorem blk_fun {env : Env} (h : env.scope.kind = .function) : env.blockKind = .function := by unfold Env.blockKind; rw [h]; rfl
variable {t : Bool} {elt : E} {tgc tgc1 : Tg} {it it1 : It} {ifs ifs1 : List E} {scope : Scope} {own : List (Str × Nat)} {iter iter1 tg1 : Expr} {eifs eifs1 : List Expr}
/-- name = [..], on one line, the name a plain local -/
theorem ss_asgLc (hi : g.N[i]? = some x) (hpl : plB g x = true) (hf : funB g = true) (hln : (p.line == q.line) = true) (hnn : (scope.names.any fun (n, k) => n == x && (k == .local || k == .cell)) = false)
    (hit : SI T cf g it tg iter) (ok : blkC g.N g.sc scope own = true) (hg : SG T cf (g.blk scope) tgc tg) (ht : SIfs T cf (g.blk scope) ifs eifs) (he : SE T cf (g.blk scope) elt ea) (hs : setB iter = false) (htg : ∀ i, i ∈ tgIs tgc → i ∈ own.map (·.2)) :
    SS T cf n g (.asg i (.cmph t elt tgc it ifs (own.map (·.2)))) (.Assign [.Name x p] (.ListComp ea [⟨tg, iter, eifs, 0⟩] scope q) pos) := fun G X W gd => by
  have gd' := gd.toGood
  have hk := gd.fun hf
  exact (ps_setLc gd.calm gd.nd (gd.ix hi) (gd.pl hpl) (sw_true hk (gd.pl hpl) hln hnn) (hit G X W gd') (by rw [gd.N, gd.sc]; exact blkOk_by ok) (fun s H C cl fp => hg G _ W0 (gd'.blk s H scope C cl fp)) (fun s H C cl fp => ht G _ W0 (gd'.blk s H scope C cl fp)) (fun s H C cl fp => he G _ W0 (gd'.blk s H scope C cl fp)) (set_none' hs X.env)).imp
    fun Dn σ H h => lc_read htg (asg_read h)
/-- name = [..] where nothing is kept back -/
def swB (g : Gam) (x : Str) (p q : Pos) (scope : Scope) : Bool := plB g x && (p.line == q.line) && !(scope.names.any fun (n, k) => n == x && (k == .local || k == .cell))
theorem Good.kind_pl (gd : Good G T cf g X W) : (X.env.kindOf x == some .local) = plB g x := by
  unfold Env.kindOf plB
  rw [gd.sc]
  cases g.sc.names.lookup x with
  | none => rfl
  | some k => cases k <;> rfl
theorem Good.swaps (gd : Good G T cf g X W) {gs : List Comprehension} {l : Nat} (hs : swB g x p q scope = false) : swapsWith (.ListComp ea gs scope q) (some (.Name x p)) l X.env = pure false := by
  have e : swapsWith (.ListComp ea gs scope q) (some (.Name x p)) l X.env = pure (X.env.blockKind == .function && X.env.kindOf x == some .local && p.line == q.line && !(scope.names.any fun (n, k) => n == x && (k == .local || k == .cell))) := rfl
  rw [e, gd.kind_pl]
  congr 1
  unfold swB at hs
  cases h1 : (X.env.blockKind == .function) with
  | false => rfl
  | true => rw [Bool.true_and]; exact hs
theorem ss_asgC {gs : List Comprehension} (hi : g.N[i]? = some x) (hl : locB g x = true) (ha : SE T cf g a (.ListComp ea gs scope q)) (hs : swB g x p q scope = false) : SS T cf n g (.asg i a) (.Assign [.Name x p] (.ListComp ea gs scope q) pos) := fun G X W gd => by
  obtain ⟨h1, h2⟩ := gd.loc hl
  exact (ps_set gd.nd (gd.ix hi) h1 (ha G X W gd.toGood) (gd.swaps hs) h2).imp fun Dn σ H h => asg_read h

/-! ### several targets -/
/-- swappedStores -/
def swN (g : Gam) (ts vs : List Expr) : Option (Option (List Str)) :=
  if !(ts.length == 2 || ts.length == 3) || vs.length != ts.length then some none else
  if vs.any (fun | .Starred .. => true | _ => false) then some none else
  let line := (ts.head?.map (·.pos.line)).getD 0
  let names := ts.filterMap fun
    | .Name id pos => if plB g id && pos.line == line then some id else none
    | _ => none
  if names.length != ts.length || names.eraseDups.length != names.length then some none else
  if vs.all (foldedForSure 8) then some none else
  if vs.all (constantsAlone 8) then none else
  some (some names)
theorem Good.stores (gd : Good G T cf g X W) (hf : funB g = true) {ts vs : List Expr} {r : Option (List Str)} (h : swN g ts vs = some r) : swappedStores [.Tuple ts k p] (.Tuple vs kk q) X.env = pure r := by
  have hb := blk_fun (gd.fun hf)
  have hk : ∀ x, (X.env.kindOf x == some .local) = plB g x := fun x => gd.kind_pl
  unfold swappedStores
  unfold swN at h
  simp only [hb, hk]
  have e0 : (ScopeKind.function != ScopeKind.function) = false := by decide
  rw [e0]
  simp only [Bool.or_false]
  split at h
  · rename_i c; rw [if_pos c]; cases h; rfl
  · rename_i c; rw [if_neg c]
    split at h
    · rename_i c2; cases h; exact if_pos c2
    · rename_i c2
      refine (if_neg c2).trans ?_
      dsimp only at h
      split at h
      · rename_i c3; cases h; exact if_pos c3
      · rename_i c3
        refine (if_neg c3).trans ?_
        split at h
        · rename_i c4; cases h; exact if_pos c4
        · rename_i c4
          refine (if_neg c4).trans ?_
          split at h
          · cases h
          · rename_i c5
            cases h
            exact if_neg c5
theorem stores_none {e : Expr} (h : ∀ vs k q, e ≠ .Tuple vs k q) (tg : Expr) (env : Env) : swappedStores [tg] e env = pure none := by
  cases e <;> first | exact absurd rfl (h _ _ _) | (cases tg <;> rfl)
theorem stores_none' {tg : Expr} (h : ∀ vs k q, tg ≠ .Tuple vs k q) (h' : ∀ vs q, tg ≠ .List vs q) (e : Expr) (env : Env) : swappedStores [tg] e env = pure none := by
  cases tg <;> first | exact absurd rfl (h _ _ _) | exact absurd rfl (h' _ _) | (cases e <;> rfl)

/-- a tuple or a list, taken apart -/
def tGtL (G : Glb) (is : List Nat) : TG := fun v σ H Q => ∃ pr ph s S d ds s', (G.wp pr).RSl ph H s σ ∧ (G.wp pr).SOk ph S H ∧ (G.wp pr).RD ph H d v ∧ itemsOf S d = some ds ∧ setSl is ds s = some s' ∧
  ∀ σ', (G.wp pr).RSl ph H s' σ' → Q σ' H
theorem pg_any {is : List Nat} {es : List Expr} (gd : Good G T cf g X W) (hn : namesB g is es = true) : PG X (.Tuple es k pos) (tGtL G is) := by
  obtain ⟨e1, e2⟩ := each_len hn X.env
  refine ⟨fun pins s0 σ H v u Q I r h => ?_⟩
  obtain ⟨pr, ph, s, S, d, ds, s', rs, o, rd, ei, e, h⟩ := h
  obtain ⟨ad, vs, rfl, hq, w⟩ := rd.items o ei
  rcases hq with hq | hq
  · refine (pg_unl (n := is.length) gd.calm (pgs_nms gd hn) e1 e2).run pins s0 σ H _ u Q I r ⟨ad, vs, rfl, by rw [gd.K]; exact hq, by rw [← w.length]; exact setSl_len e, ?_⟩
    exact ⟨pr, ph, s, S, ds, s', rs, o, w, e, fun σ' r1 _ _ => h σ' r1⟩
  · refine (pg_tup (n := is.length) gd.calm (pgs_nms gd hn) e1 e2).run pins s0 σ H _ u Q I r ⟨ad, vs, rfl, by rw [gd.K]; exact hq, by rw [← w.length]; exact setSl_len e, ?_⟩
    exact ⟨pr, ph, s, S, ds, s', rs, o, w, e, fun σ' r1 _ _ => h σ' r1⟩
/-- names = e, taken apart from the left -/
theorem ss_asgT {is : List Nat} (hn : namesB g is es = true) (ha : SE T cf g a ea) (hw : ∀ (G : Glb) (X : Cx) (W : WX), Good G T cf g X W → swappedStores [.Tuple es k p] ea X.env = pure none) : SS T cf n g (.asgT is a) (.Assign [.Tuple es k p] ea pos) := fun G X W gd =>
  (ps_asg (ha G X W gd.toGood) (pg_any gd.toGood hn) (sole_tup _ _ _) (hw G X W gd.toGood)).imp fun Dn σ H ⟨pr, ph, s, S, rs, o, h⟩ => by
    simp only [exec] at h
    refine ⟨pr, ph, s, S, rs, o, (PostF.seq (Ra := (G.wp pr).RD) (fun n1 => rs.next n1 o) h).imp fun v H1 ⟨ph1, S1, d, n1, o1, rd, _, h1⟩ => ?_⟩
    split at h1
    · rename_i ds ei
      split at h1
      · rename_i s1 e
        exact ⟨pr, ph1, s, S1, d, ds, s1, rs.next n1 o, o1, rd, ei, e, fun σ' r1 => h1 ph1 H1 σ' .refl o1 r1⟩
      · exact h1.elim
    · exact h1.elim
/-- i, j = a, b, stored at once -/
theorem ss_par2 {i j : Nat} {x y : Str} {px py : Pos} {k2 : Nat} (hi : g.N[i]? = some x) (hj : g.N[j]? = some y) (hij : i ≠ j) (hx : plB g x = true) (hy : plB g y = true) (hf : funB g = true) (ha : SE T cf g a ea) (hb : SE T cf g b eb) (hs : starB ea = false) (hs2 : starB eb = false)
    (hw : swN g [.Name x px, .Name y py] [ea, eb] = some (some [x, y])) : SS T cf n g (.par2 i j a b) (.Assign [.Tuple [.Name x px, .Name y py] k p] (.Tuple [ea, eb] k2 q) pos) := fun G X W gd =>
  (ps_par gd.calm gd.nd (gd.ix hi) (gd.ix hj) hij (gd.pl hx) (gd.pl hy) (pa_cons (ha G X W gd.toGood) (pa_cons (hb G X W gd.toGood) pa_nil (star_cons hs2 [] X.env)) (star_cons hs [eb] X.env)) (gd.stores hf hw)).imp fun Dn σ H ⟨pr, ph, s, S, rs, o, h⟩ => by
    simp only [exec] at h
    refine ⟨pr, ph, s, S, rs, o, (PostF.seq (Ra := (G.wp pr).RD) (fun n1 => rs.next n1 o) h).imp fun v H1 ⟨ph1, S1, d, n1, o1, rd, _, h1⟩ => ?_⟩
    refine ⟨pr, ph1, s, S1, rs.next n1 o, o1, (PostF.seq (Ra := (G.wp pr).RD) (fun n2 => (rs.next n1 o).next n2 o1) h1).imp fun v2 H2 ⟨ph2, S2, d2, n2, o2, rd2, _, h2⟩ => ?_⟩
    refine ⟨v, v2, rfl, h2 ph2 H2 _ .refl o2 ((((rs.next n1 o).next n2 o1).set i (rd.next n2 o1)).set j rd2)⟩
theorem ss_par3 {i j l : Nat} {x y z : Str} {px py pz : Pos} {k2 : Nat} (hi : g.N[i]? = some x) (hj : g.N[j]? = some y) (hl : g.N[l]? = some z) (hij : i ≠ j) (hil : i ≠ l) (hjl : j ≠ l) (hx : plB g x = true) (hy : plB g y = true) (hz : plB g z = true) (hf : funB g = true)
    (ha : SE T cf g a ea) (hb : SE T cf g b eb) (hc : SE T cf g c ec) (hs : starB ea = false) (hs2 : starB eb = false) (hs3 : starB ec = false)
    (hw : swN g [.Name x px, .Name y py, .Name z pz] [ea, eb, ec] = some (some [x, y, z])) : SS T cf n g (.par3 i j l a b c) (.Assign [.Tuple [.Name x px, .Name y py, .Name z pz] k p] (.Tuple [ea, eb, ec] k2 q) pos) := fun G X W gd =>
  (ps_par3 gd.calm gd.nd (gd.ix hi) (gd.ix hj) (gd.ix hl) hij hil hjl (gd.pl hx) (gd.pl hy) (gd.pl hz) (pa_cons (ha G X W gd.toGood) (pa_cons (hb G X W gd.toGood) (pa_cons (hc G X W gd.toGood) pa_nil (star_cons hs3 [] X.env)) (star_cons hs2 [ec] X.env)) (star_cons hs [eb, ec] X.env)) (gd.stores hf hw)).imp fun Dn σ H ⟨pr, ph, s, S, rs, o, h⟩ => by
    simp only [exec] at h
    refine ⟨pr, ph, s, S, rs, o, (PostF.seq (Ra := (G.wp pr).RD) (fun n1 => rs.next n1 o) h).imp fun v H1 ⟨ph1, S1, d, n1, o1, rd, _, h1⟩ => ?_⟩
    refine ⟨pr, ph1, s, S1, rs.next n1 o, o1, (PostF.seq (Ra := (G.wp pr).RD) (fun n2 => (rs.next n1 o).next n2 o1) h1).imp fun v2 H2 ⟨ph2, S2, d2, n2, o2, rd2, _, h2⟩ => ?_⟩
    refine ⟨pr, ph2, s, S2, (rs.next n1 o).next n2 o1, o2, (PostF.seq (Ra := (G.wp pr).RD) (fun n3 => ((rs.next n1 o).next n2 o1).next n3 o2) h2).imp fun v3 H3 ⟨ph3, S3, d3, n3, o3, rd3, _, h3⟩ => ?_⟩
    refine ⟨v, v2, v3, rfl, h3 ph3 H3 _ .refl o3 ((((((rs.next n1 o).next n2 o1).next n3 o2).set i ((rd.next n2 o1).next n3 o2)).set j (rd2.next n3 o2)).set l rd3)⟩
end
end DI
end
section
set_option maxRecDepth 100000
set_option maxHeartbeats 1000000
/-! DI12: statements, the second part. -/
namespace DI
open PySem PySem.Spec PyProof.Rows L2
section
variable {T : Tab} {cf : Nat → List D → Store → R D} {n : Nat} {g : Gam} {G : Glb} {X : Cx} {W : WX} {pos p p1 p2 p3 q tpos : Pos} {x : Str} {a b c : E} {ea eb ec tg : Expr} {cs : List E} {es elts : List Expr} {k kk i : Nat} {st : Stmt} {sts sts' : List Stmt} {cc : St} {ccs ccs' : List St}
/-- o[i] = e -/
theorem ss_asgS (ho : SE T cf g a ea) (hi : SE T cf g b eb) (hv : SE T cf g c ec) (hsl : sliceB eb = false) (hns : starB ea = false) : SS T cf n g (.asgS a b c) (.Assign [.Subscript ea eb p] ec pos) := fun G X W gd => by
  have hS : PSet X (fun o i v H Q => ∃ pr ph S x y d σ W, (G.wp pr).SOk ph S H ∧ (G.wp pr).RD ph H x o ∧ (G.wp pr).RD ph H y i ∧ (G.wp pr).RD ph H d v ∧ Post (G.wp pr) ph H σ W (fun _ _ _ (_ : Unit) => True) (setD x y d S) (fun _ => Q)) :=
    fun pins s σ H o i v u1 u2 u3 Q I r1 r2 r3 ⟨pr, h⟩ => psetR_set (G := G.wp pr) pins s σ H o i v u1 u2 u3 Q I r1 r2 r3 h
  have hsub : ∀ v, assign (.Subscript ea eb p) X.env v = (do
      let ov ← holding [v] (eval ea X.env)
      let iv ← holding [v, ov] (eval eb X.env)
      standAt p
      holding [v, ov, iv] (setItem ov iv v)
      release [v, ov, iv] []) := by
    intro v
    cases eb <;> first | rfl | cases hsl
  refine (ps_asg (hv G X W gd.toGood) (pg_sub (ho G X W gd.toGood) (hi G X W gd.toGood) hS hsub) (sole_sub _ _ _) (stores_none' (by intro _ _ _ z; cases z) (by intro _ _ z; cases z) _ _)).imp fun Dn σ H ⟨pr, ph, s, S, rs, o, h⟩ => ?_
  simp only [exec] at h
  refine ⟨pr, ph, s, S, rs, o, (PostF.seq (Ra := (G.wp pr).RD) (fun n1 => rs.next n1 o) h).imp fun v H1 ⟨ph1, S1, d, n1, o1, rd, _, h1⟩ => ?_⟩
  have rs1 := rs.next n1 o
  refine ⟨pr, ph1, s, S1, rs1, o1, (PostF.seq (Ra := (G.wp pr).RD) (fun n2 => rs1.next n2 o1) h1).imp fun v2 H2 ⟨ph2, S2, d2, n2, o2, rd2, _, h2⟩ => ?_⟩
  have rs2 := rs1.next n2 o1
  refine ⟨pr, ph2, s, S2, rs2, o2, (PostF.seq (Ra := (G.wp pr).RD) (fun n3 => rs2.next n3 o2) h2).imp fun v3 H3 ⟨ph3, S3, d3, n3, o3, rd3, _, h3⟩ => ?_⟩
  have rs3 := rs2.next n3 o2
  refine ⟨pr, ph3, S3, d2, d3, d, σ, W, o3, rd2.next n3 o2, rd3, (rd.next n2 o1).next n3 o2, (PostF.seq (Ra := fun _ _ _ (_ : Unit) => True) (fun n4 => rs3.next n4 o3) h3).imp fun _ H4 ⟨ph4, S4, _, n4, o4, _, _, h4⟩ => ?_⟩
  exact h4 ph4 H4 σ .refl o4 (rs3.next n4 o3)
/-- name op= e -/
theorem ip_floor : PIp X .FloorDiv (fun x y H Q => ∃ i j, x = .int i ∧ y = .int j ∧ j ≠ 0 ∧ False) := fun pins s σ H x y v u Q I r1 r2 ⟨_, _, _, _, _, h⟩ => h.elim
theorem ip_of (hK : X.K = G.K) {op : Operator} (hop : op = .Add ∨ op = .Sub) : PIp X op (fun x y H Q => ∃ ph S i j σ W, G.SOk ph S H ∧ x = .int i ∧ y = .int j ∧ Post G ph H σ W G.RD (bin op (.int i) (.int j) S) Q) := by
  intro pins s σ H x y v u Q I r1 r2 h
  obtain ⟨ph, S, i, j, σ', W, o, rfl, rfl, h⟩ := h
  rcases hop with rfl | rfl
  · exact ip_add pins s σ H _ _ v u Q I r1 r2 ⟨i, j, rfl, rfl, Post.val h o (.int _)⟩
  · exact ip_sub pins s σ H _ _ v u Q I r1 r2 ⟨i, j, rfl, rfl, Post.val h o (.int _)⟩
theorem ss_aug {op : Operator} (hop : op = .Add ∨ op = .Sub) (hi : g.N[i]? = some x) (hl : locB g x = true) (ha : SE T cf g a ea) : SS T cf n g (.aug i op a) (.AugAssign (.Name x p) op ea pos) := fun G X W gd => by
  obtain ⟨h1, h2⟩ := gd.loc hl
  have hP : PIp X op (fun x y H Q => ∃ pr ph S i j σ W, (G.wp pr).SOk ph S H ∧ x = .int i ∧ y = .int j ∧ Post (G.wp pr) ph H σ W (G.wp pr).RD (bin op (.int i) (.int j) S) Q) :=
    fun pins s σ H x y v u Q I r1 r2 ⟨pr, h⟩ => ip_of (G := G.wp pr) gd.K hop pins s σ H x y v u Q I r1 r2 h
  refine (ps_aug gd.nd (gd.ix hi) h1 (ha G X W gd.toGood) hP h2).imp fun Dn σ H ⟨pr, ph, s, S, rs, o, h⟩ => ?_
  simp only [exec] at h
  split at h
  · rename_i x0 e
    obtain ⟨v, e1, rv⟩ := rs.at_ i _ e
    cases rv
    refine ⟨.int x0, e1, pr, ph, s, S, rs, o, (PostF.seq (Ra := (G.wp pr).RD) (fun n1 => rs.next n1 o) h).imp fun v H1 ⟨ph1, S1, d, n1, o1, rd, _, h1⟩ => ?_⟩
    split at h1
    · rename_i y _
      cases rd
      have rs1 := rs.next n1 o
      refine ⟨pr, ph1, S1, x0, y, σ, W, o1, rfl, rfl, (PostF.seq (Ra := (G.wp pr).RD) (fun n2 => rs1.next n2 o1) h1).imp fun z H2 ⟨ph2, S2, dz, n2, o2, rz, _, h2⟩ => ?_⟩
      exact h2 ph2 H2 _ .refl o2 ((rs1.next n2 o1).set i rz)
    · exact h1.elim
  · exact h.elim
/-- if -/
theorem ss_iff (hc : SeT T cf g c ec) (ha : SSs T cf n g ccs sts) (hb : SSs T cf n g ccs' sts') : SS T cf n g (.iff c ccs ccs') (.If ec sts sts' pos) := fun G X W gd => (ps_if (hc G X W gd.toGood) (ha G X W gd) (hb G X W gd)).imp fun Dn σ H ⟨pr, ph, s, S, rs, o, h⟩ => by
  simp only [exec] at h
  refine ⟨pr, ph, s, S, rs, o, ?_⟩
  cases r : evalE cf c s S with
  | no => rw [r] at h; exact h.elim
  | ex c pl S1 =>
    rw [r] at h
    exact fun ph' H' cv dd n' o' r' => h ph' H' σ cv dd n' o' (rs.next n' o) r'
  | ok d S1 =>
    rw [r] at h
    obtain ⟨k, hd⟩ : ∃ k, d = .bl k := by
      cases d with
      | bl k => exact ⟨k, rfl⟩
      | _ => exact h.elim
    subst hd
    refine fun ph' H' k' n' o' e => ?_
    have e : k = k' := e
    subst e
    cases k with
    | true => refine iteT ?_; exact ⟨pr, ph', s, S1, rs.next n' o, o', PostF.from (by exact h) n'⟩
    | false => refine iteF ?_; exact ⟨pr, ph', s, S1, rs.next n' o, o', PostF.from (by exact h) n'⟩
/-- a loop's body -/
theorem postF_body {ph : List Addr} {H : Hp} {r : F} {kf : Sl → Store → F} {Dn : Ends} {N : L2.St → Hp → Prop} (h : PostF G ph H W (match r with
      | .nx s2 S2 => kf s2 S2
      | .ct s2 S2 => kf s2 S2
      | .bk s2 S2 => .nx s2 S2
      | r => r) Dn) (hN : ∀ s2 S2 ph' H' σ', Nxt ph H ph' H' → G.SOk ph' S2 H' → G.RSl ph' H' s2 σ' → PostF G ph' H' W (kf s2 S2) Dn → N σ' H') : PostF G ph H W r { Dn with nx := N, ct := N, bk := Dn.nx } := by
  cases r with
  | nx s2 S2 => exact fun ph' H' σ' n' o' rs' => hN s2 S2 ph' H' σ' n' o' rs' (PostF.from (by exact h) n')
  | ct s2 S2 => exact fun ph' H' σ' n' o' rs' => hN s2 S2 ph' H' σ' n' o' rs' (PostF.from (by exact h) n')
  | bk s2 S2 => exact h
  | rt d S => exact h
  | ex c pl s S => exact h
  | no => exact h
/-- while -/
theorem ss_whl (hc : SeT T cf g c ec) (hb : SSs T cf n g ccs sts) : SS T cf n g (.whl c ccs) (.While ec sts [] pos) := fun G X W gd => (ps_while gd.pass (hc G X W gd.toGood) (hb G X W gd)).imp fun Dn σ H ⟨pr, ph, s, S, rs, o, h⟩ => by
  simp only [exec] at h
  refine ⟨fun m σ H => ∃ ph s S, (G.wp pr).RSl ph H s σ ∧ (G.wp pr).SOk ph S H ∧ PostF (G.wp pr) ph H W (whlL (fun s2 S2 => (evalE cf c s2 S2).bind isBl) (fun s2 S2 => execs cf n ccs s2 S2) m s S) Dn, ⟨n, ph, s, S, rs, o, h⟩, ?_⟩
  rintro m σ H ⟨ph, s, S, rs, o, h⟩
  cases m with
  | zero => exact h.elim
  | succ m =>
    unfold whlL at h
    refine ⟨pr, ph, s, S, rs, o, ?_⟩
    cases e : (evalE cf c s S).bind isBl with
    | no => rw [e] at h; exact h.elim
    | ex c pl S1 =>
      rw [e] at h
      exact fun ph' H' cv dd n' o' r' => h ph' H' σ cv dd n' o' (rs.next n' o) r'
    | ok b S1 =>
      rw [e] at h
      refine fun ph' H' b' n' o' eb => ?_
      have eb : b = b' := eb
      subst eb
      have rs' := rs.next n' o
      cases b with
      | true =>
        refine iteT ?_
        refine ⟨fun σ H => ∃ ph s S, (G.wp pr).RSl ph H s σ ∧ (G.wp pr).SOk ph S H ∧ PostF (G.wp pr) ph H W (whlL (fun s2 S2 => (evalE cf c s2 S2).bind isBl) (fun s2 S2 => execs cf n ccs s2 S2) m s S) Dn, fun σ' H' h' => ⟨m, Nat.lt_succ_self m, h'⟩, pr, ph', s, S1, rs', o', ?_⟩
        exact postF_body (PostF.from (by exact h) n') fun s2 S2 ph2 H2 σ2 n2 o2 rs2 q => ⟨ph2, s2, S2, rs2, o2, q⟩
      | false =>
        refine iteF ?_
        exact h ph' H' σ n' o' rs'
/-- for -/
theorem ss_for {tgc : Tg} {it : It} {iter : Expr} (hi : SI T cf g it tg iter) (hg : SG T cf g tgc tg) (hb : SSs T cf n g ccs sts) (hs : setB iter = false) : SS T cf n g (.for tgc it ccs) (.For tg iter sts [] pos) := fun G X W gd =>
  (ps_for gd.pass gd.calm (hi G X W gd.toGood) (hg G X W gd.toGood) (hb G X W gd) (set_none' hs X.env)).imp fun Dn σ H ⟨pr, ph, s, S, rs, o, h⟩ => by
    simp only [exec] at h
    refine ⟨pr, ph, s, S, rs, o, (PostF.seq (Ra := fun ph' H' src J => RIt (G.wp pr) ph' H' src J) (fun n1 => rs.next n1 o) h).imp fun J H1 ⟨ph1, S1, src, n1, o1, rit, _, h1⟩ => ?_⟩
    refine ⟨fun i m σ H => ∃ ph s S, Nxt ph1 H1 ph H ∧ (G.wp pr).RSl ph H s σ ∧ (G.wp pr).SOk ph S H ∧ PostF (G.wp pr) ph H W (forL src tgc (fun s2 S2 => execs cf n ccs s2 S2) m i s S) Dn, ⟨_, ph1, s, S1, .refl, rs.next n1 o, o1, h1⟩, ?_⟩
    rintro i m σ H ⟨ph, s, S, nb, rs, o, h⟩
    have hit := rit pr ph H S i (fun a ha => .inl ha) nb.p o
    cases m with
    | zero =>
      unfold forL at h
      split at h
      · rename_i e
        rw [e] at hit
        exact .inl ⟨hit, h ph H σ .refl o rs⟩
      · exact h.elim
    | succ m =>
      unfold forL at h
      split at h
      · exact h.elim
      · rename_i e
        rw [e] at hit
        exact .inl ⟨hit, h ph H σ .refl o rs⟩
      · rename_i d e
        rw [e] at hit
        obtain ⟨go, yl⟩ := hit
        split at h
        · exact h.elim
        · rename_i s1 e1
          refine .inr ⟨go, fun σ H => ∃ ph s S, Nxt ph1 H1 ph H ∧ (G.wp pr).RSl ph H s σ ∧ (G.wp pr).SOk ph S H ∧ PostF (G.wp pr) ph H W (forL src tgc (fun s2 S2 => execs cf n ccs s2 S2) m (i + 1) s S) Dn, fun σ' H' h' => ⟨m, Nat.lt_succ_self m, h'⟩, fun x H' y => ?_⟩
          obtain ⟨n3, o3, rd⟩ := yl x H' y
          refine ⟨pr, ph, s, S, d, s1, rs.next n3 o, o3, rd, e1, fun σ2 rs2 hl hag => ?_⟩
          refine ⟨pr, ph, s1, S, rs2, o3, postF_body (PostF.from (by exact h) n3) fun s4 S4 ph4 H4 σ4 n4 o4 rs4 q => ?_⟩
          exact ⟨ph4, s4, S4, (nb.trans n3).trans n4, rs4, o4, q⟩
/-- raise X(e, ..) -/
theorem ss_raise {ci : Nat} (h1 : T.clss.lookup x = some ci) (h2 : glB g.sc x = true) (h3 : okN x = true) (hs : starB ea = false) (hes : es.all (fun e => !starB e) = true) (hl : cs.length < 100) (ha : SEs T cf g cs (ea :: es)) :
    SS T cf n g (.raise ci cs) (.Raise (some (.Call (.Name x p) (ea :: es) [] q)) none pos) := fun G X W gd => by
  obtain ⟨C, q1, q2⟩ := gd.tab.clss x ci h1
  have ok := gd.tab.exc ci C q1
  obtain ⟨B, newId, initId, bmB, F, hx⟩ := ok.base
  refine (ps_raise gd.calm gd.tk (pmk_ownA F (by rw [gd.K]; exact hx) (by rw [gd.mg]; exact q2) (by rw [gd.K]; exact ok.keep) (raises_own (by rw [gd.K]; exact ok.sub) (by rw [gd.K]; exact ok.typ)) (gd.gl h2) (ha G X W gd.toGood) (okN1 h3) (star_cons hs es X.env) (by rw [back_any]; exact star_none X.env hes))).imp fun Dn σ H ⟨pr, ph, s, S, rs, o, h⟩ => ?_
  simp only [exec] at h
  refine ⟨pr, ph, s, S, rs, o, ?_⟩
  have hlen : ∀ {cs : List E} {s : Sl} {S S' : Store} {ds : List D}, evalEs cf cs s S = .ok ds S' → ds.length = cs.length := by
    intro cs
    induction cs with
    | nil => intro s S S' ds e; simp only [evalEs] at e; cases e; rfl
    | cons c cs ih =>
      intro s S S' ds e
      simp only [evalEs] at e
      cases e1 : evalE cf c s S with
      | no => rw [e1] at e; cases e
      | ex c pl S1 => rw [e1] at e; cases e
      | ok d S1 =>
        rw [e1] at e
        simp only [R.bind_ok] at e
        cases e2 : evalEs cf cs s S1 with
        | no => rw [e2] at e; cases e
        | ex c pl S1 => rw [e2] at e; cases e
        | ok ds' S2 =>
          rw [e2] at e
          cases e
          rw [List.length_cons, List.length_cons, ih e2]
  refine (PostF.seq (Ra := (G.wp pr).RDs) (fun n1 => rs.next n1 o) h).imp fun vs H1 ⟨ph1, S1, ds, n1, o1, rds, e, hh⟩ => ⟨?_, ?_⟩
  · rw [← rds.length, hlen e]
    exact Nat.le_trans (Nat.le_of_lt hl) (by decide)
  · exact hh ph1 H1 σ (.ref C) none .refl o1 (rs.next n1 o) ⟨C, q1, rfl, rfl, rfl⟩

/-! ### try -/
theorem _root_.DI.GoodS.tr (gd : GoodS G T cf g X W) {W' : WX} {pn : List (Addr × Obj)} {xe : Value → Shared → Prop} (tk : Takes (X.tr pn xe) W') (hp : PassesOwn (model X.prog X.w) X.A X.env xe) : GoodS G T cf g (X.tr pn xe) W' :=
  { tab := gd.tab, prog := gd.prog, w := gd.w, K := gd.K, mg := gd.mg, base := gd.base, N := gd.N, sc := gd.sc, fn := gd.fn, nd := gd.nd, calm := gd.calm, tk := tk, pass := hp, units := gd.units, calls := gd.calls, stk := gd.stk, frm := gd.frm }
end
end DI
end
section
set_option maxRecDepth 100000
set_option maxHeartbeats 1000000
/-! DI13: try; constants. -/
namespace DI
open PySem PySem.Spec PyProof.Rows L2
section
variable {T : Tab} {cf : Nat → List D → Store → R D} {n : Nat} {g : Gam} {G : Glb} {X : Cx} {W : WX} {pos p p1 p2 p3 q tpos : Pos} {x : Str} {a b c : E} {ea eb ec tg : Expr} {cs : List E} {es elts : List Expr} {k kk i : Nat} {st : Stmt} {sts sts' : List Stmt} {cc : St} {ccs ccs' : List St}
/-! ### constants, in any context -/
mutual
def conB : D → Expr → Bool
  | .non, .Constant .none _ _ => true
  | .int i, .Constant (.int j) _ _ => decide (i = j)
  | .bl i, .Constant (.bool j) _ _ => decide (i = j)
  | .str cs, .Constant (.str z) _ _ => decide (z = ⟨cs.toArray⟩)
  | .tup ds, .Tuple es _ _ => consB ds es && decide (ds.length ≤ lim)
  | _, _ => false
def consB : List D → List Expr → Bool
  | [], [] => true
  | d :: ds, e :: es => conB d e && !starB e && consB ds es
  | _, _ => false
end
def tCo (G : Glb) (d : D) : TE := fun σ H Q => ∃ ph S, G.SOk ph S H ∧ ∀ ph' H' v, Nxt ph H ph' H' → G.SOk ph' S H' → G.RD ph' H' d v → Q v H'
def tCos (G : Glb) (ds : List D) : TA := fun σ H Q => ∃ ph S, G.SOk ph S H ∧ ∀ ph' H' vs, Nxt ph H ph' H' → G.SOk ph' S H' → G.RDs ph' H' ds vs → Q vs H'
theorem conB_non {e : Expr} (h : conB .non e = true) : ∃ j p, e = .Constant .none j p := by
  cases e with
  | Constant v j p => cases v <;> first | exact ⟨j, p, rfl⟩ | (simp [conB] at h)
  | _ => simp [conB] at h
theorem conB_int {i : Int} {e : Expr} (h : conB (.int i) e = true) : ∃ j p, e = .Constant (.int i) j p := by
  cases e with
  | Constant v j p => cases v <;> first | (simp [conB] at h; done) | (simp only [conB, decide_eq_true_eq] at h; subst h; exact ⟨j, p, rfl⟩)
  | _ => simp [conB] at h
theorem conB_bl {i : Bool} {e : Expr} (h : conB (.bl i) e = true) : ∃ j p, e = .Constant (.bool i) j p := by
  cases e with
  | Constant v j p => cases v <;> first | (simp [conB] at h; done) | (simp only [conB, decide_eq_true_eq] at h; subst h; exact ⟨j, p, rfl⟩)
  | _ => simp [conB] at h
theorem conB_str {cs : List Nat} {e : Expr} (h : conB (.str cs) e = true) : ∃ j p, e = .Constant (.str ⟨cs.toArray⟩) j p := by
  cases e with
  | Constant v j p => cases v <;> first | (simp [conB] at h; done) | (simp only [conB, decide_eq_true_eq] at h; subst h; exact ⟨j, p, rfl⟩)
  | _ => simp [conB] at h
theorem conB_tup {ds : List D} {e : Expr} (h : conB (.tup ds) e = true) : ∃ es k p, e = .Tuple es k p ∧ consB ds es = true ∧ ds.length ≤ lim := by
  cases e with
  | Tuple es k p =>
    simp only [conB, Bool.and_eq_true, decide_eq_true_eq] at h
    exact ⟨es, k, p, rfl, h.1, h.2⟩
  | _ => simp [conB] at h
mutual
theorem pe_con (G : Glb) (X : Cx) : ∀ (d : D) {e : Expr}, conB d e = true → PE X e (tCo G d)
  | .non, e, h => by
    obtain ⟨j, p, rfl⟩ := conB_non h
    exact pe_non.imp fun σ H Q ⟨ph, S, o, h⟩ => h ph H _ .refl o .non
  | .int i, e, h => by
    obtain ⟨j, p, rfl⟩ := conB_int h
    exact pe_int.imp fun σ H Q ⟨ph, S, o, h⟩ => h ph H _ .refl o (.int _)
  | .bl i, e, h => by
    obtain ⟨j, p, rfl⟩ := conB_bl h
    exact pe_bl.imp fun σ H Q ⟨ph, S, o, h⟩ => h ph H _ .refl o (.bl _)
  | .str cs, e, h => by
    obtain ⟨j, p, rfl⟩ := conB_str h
    exact pe_str.imp fun σ H Q ⟨ph, S, o, h⟩ => h ph H _ .refl o (.str _)
  | .tup ds, e, h => by
    obtain ⟨es, k, p, rfl, h1, h2⟩ := conB_tup h
    exact (pe_tup (pa_con G X ds h1)).imp fun σ H Q ⟨ph, S, o, q⟩ => ⟨ph, S, o, fun ph' H' vs n' o' rds => ⟨by rw [← rds.length, ← limEq]; exact h2, fun T hT =>
      q ph' _ _ (n'.trans (Nxt.laid hT)) (SOk.laid o' hT) (.tup (.inl (.inl upd_same)) (rds.next (Nxt.laid hT) o'))⟩⟩
  | .fl _, e, h => by cases e <;> simp [conB] at h
  | .kl _, e, h => by cases e <;> simp [conB] at h
  | .lst _, e, h => by cases e <;> simp [conB] at h
  | .dct _, e, h => by cases e <;> simp [conB] at h
  | .fn _, e, h => by cases e <;> simp [conB] at h
theorem pa_con (G : Glb) (X : Cx) : ∀ (ds : List D) {es : List Expr}, consB ds es = true → PA X es (tCos G ds)
  | [], [], _ => pa_nil.imp fun σ H Q ⟨ph, S, o, h⟩ => h ph H [] .refl o .nil
  | d :: ds, e :: es, h => by
    simp only [consB, Bool.and_eq_true, Bool.not_eq_true'] at h
    refine (pa_cons (pe_con G X d h.1.1) (pa_con G X ds h.2) (star_cons h.1.2 es X.env)).imp fun σ H Q ⟨ph, S, o, q⟩ => ⟨ph, S, o, fun ph' H' v n' o' rd => ⟨ph', S, o', fun ph2 H2 vs n2 o2 rds => ?_⟩⟩
    exact q ph2 H2 _ (n'.trans n2) o2 (.cons (rd.next n2 o') rds)
  | [], _ :: _, h => by cases h
  | _ :: _, [], h => by cases h
end

def tCo2 (G : Glb) (d : D) : TE := fun σ H Q => ∃ pr, tCo (G.wp pr) d σ H Q
theorem pe_con2 (G : Glb) (X : Cx) (d : D) {e : Expr} (h : conB d e = true) : PE X e (tCo2 G d) := ⟨fun pins s σ H Q I ⟨pr, q⟩ => (pe_con (G.wp pr) X d h).run pins s σ H Q I q⟩
/-! ### try -/
/-- the clauses: a name of a class, a constant handed back -/
def hdsB (T : Tab) (g : Gam) : List (Nat × D) → List ExceptHandler → Bool
  | [], [] => true
  | (c, d) :: hs, .ExceptHandler (some (.Name x _)) none [.Return (some e) _] _ :: es => decide (T.clss.lookup x = some c) && glB g.sc x && okN x && conB d e && hdsB T g hs es
  | _, _ => false
theorem hds_ok (gd : GoodS G T cf g X W) : ∀ {hs : List (Nat × D)} {es : List ExceptHandler}, hdsB T g hs es = true → ∃ l, HdsOk X es l ∧ (es ≠ [] → hs ≠ []) ∧
    ∀ {pr ph : List Addr} {H : Hp} {S : Store} {σ : L2.St} {Dn : Ends} {c : Nat} {pl : List (List Nat × D)} {s : Sl} {C : Addr}, G.cls[c]? = some C → (G.wp pr).SOk ph S H → (G.wp pr).RSl ph H s σ → pl = [] →
      PostF (G.wp pr) ph H W (tryF (.ex c pl s S) hs) Dn → wMany X.K W Dn l (.ref C) none σ H
  | [], [], _ => ⟨[], .nil, fun h => absurd rfl h, fun hc o rs e h => by
    subst e
    exact h _ _ _ _ none .refl o rs ⟨_, hc, rfl, rfl, rfl⟩⟩
  | (c0, d) :: hs, e :: es, h => by
    obtain ⟨x, p, er, pr0, ph0, rfl, h1, h2, h3, h4, h5⟩ : ∃ x p er p2 p3, e = .ExceptHandler (some (.Name x p)) none [.Return (some er) p2] p3 ∧ T.clss.lookup x = some c0 ∧ glB g.sc x = true ∧ okN x = true ∧ conB d er = true ∧ hdsB T g hs es = true := by
      unfold hdsB at h
      split at h
      · rename_i e1 e2
        cases e1
      · rename_i e1 e2
        cases e1
        cases e2
        simp only [Bool.and_eq_true, decide_eq_true_eq] at h
        exact ⟨_, _, _, _, _, rfl, h.1.1.1.1, h.1.1.1.2, h.1.1.2, h.1.2, h.2⟩
      · cases h
    obtain ⟨l, hl, _, hw⟩ := hds_ok gd h5
    obtain ⟨C0, q1, q2⟩ := gd.tab.clss x c0 h1
    refine ⟨(.ref C0, fun a cls dd => tRet (tCo2 G d)) :: l, .cons ⟨gd.gl h2, okN1 h3, .inl (by rw [gd.mg]; exact q2)⟩ (fun a oe cls dd pn _ _ => pss_one (ps_ret (pe_con2 G _ d h4))) hl, fun _ => by simp, fun {pr ph H S σ Dn c pl s C} hc o rs e h => ?_⟩
    refine ⟨decide (c = c0), by rw [gd.K]; exact gd.tab.exm c c0 C C0 hc q1, fun hb a ha => ?_, fun hb => ?_⟩
    · have hb : c = c0 := of_decide_eq_true hb
      subst hb
      unfold tryF at h
      simp only [List.lookup_cons, beq_self_eq_true] at h
      exact ⟨pr, ph, S, o, fun ph' H' v n' o' r' => h ph' H' v n' o' r'⟩
    · have hb : c ≠ c0 := of_decide_eq_false hb
      refine hw hc o rs e ?_
      unfold tryF at h ⊢
      have e2 : (c == c0) = false := by simpa using hb
      simpa only [List.lookup_cons, e2] using h
  | [], _ :: _, h => by cases h
  | _ :: _, [], h => by cases h
/-- try: body, except x: return constant, .. -/
theorem ss_try {h₀ : ExceptHandler} {hds : List ExceptHandler} {hs : List (Nat × D)} (hb : SSs T cf n g ccs sts) (hh : hdsB T g hs (h₀ :: hds) = true) : SS T cf n g (.try1 ccs hs) (.Try sts (h₀ :: hds) [] [] pos) := fun G X W gd => by
  obtain ⟨l, hl, _, hw⟩ := hds_ok gd hh
  refine (ps_try_many gd.stk gd.frm gd.tk (tb := fun W' => tSs G cf n W' ccs) (fun W' pn xe tk hp => hb G _ W' (gd.tr tk hp)) hl).imp fun Dn σ H ⟨pr, ph, s, S, rs, o, h⟩ => ?_
  simp only [exec] at h
  refine ⟨pr, ph, s, S, rs, o, ?_⟩
  cases e : execs cf n ccs s S with
  | no => rw [e] at h; exact h.elim
  | nx s1 S1 => rw [e] at h; exact h
  | bk s1 S1 => rw [e] at h; exact h
  | ct s1 S1 => rw [e] at h; exact h
  | rt d S1 => rw [e] at h; exact h
  | ex c pl s1 S1 =>
    rw [e] at h
    refine fun ph' H' σ' cv dd n' o' rs' hx => ?_
    obtain ⟨C, q1, rfl, q3, rfl⟩ := hx
    exact hw q1 o' rs' q3 (PostF.from h n')
end
end DI
end
section
set_option maxRecDepth 100000
set_option maxHeartbeats 1000000
/-! DI14: defs. -/
namespace DI
open PySem PySem.Spec PyProof.Rows L2

/-! ### what is left of the store behind a call -/
section
variable {K : PySem.W.Frag} {fa pr ph ps : List Addr} {H H' : Hp} {S S1 : Store}
mutual
theorem RD.noRef : ∀ {d : D} {v : V}, RD K fa pr ph H d v → DI.noRef ph.length d = true
  | _, _, .non => rfl
  | _, _, .bl b => rfl
  | _, _, .int b => rfl
  | _, _, .str b => rfl
  | _, _, .tup q r => by unfold DI.noRef; exact RDs.noRefs r
  | _, _, .fl _ _ _ r => by unfold DI.noRef; exact RDs.noRefs r
  | _, _, .kl _ r => by unfold DI.noRef; exact RDs.noRefs r
  | _, _, .dct h => by unfold DI.noRef; exact decide_eq_true (List.getElem?_eq_some_iff.mp h).1
  | _, _, .lst h => by unfold DI.noRef; exact decide_eq_true (List.getElem?_eq_some_iff.mp h).1
  | _, _, .fn h => rfl
theorem RDs.noRefs : ∀ {ds : List D} {vs : List V}, RDs K fa pr ph H ds vs → DI.noRefs ph.length ds = true
  | _, _, .nil => rfl
  | _, _, .cons h r => by unfold DI.noRefs; rw [RD.noRef h, RDs.noRefs r]; rfl
end
mutual
theorem RD.shrink : ∀ {d : D} {v : V}, RD K fa pr (ph ++ ps) H d v → DI.noRef ph.length d = true → RD K fa pr ph H d v
  | _, _, .non, _ => .non
  | _, _, .bl b, _ => .bl b
  | _, _, .int b, _ => .int b
  | _, _, .str b, _ => .str b
  | _, _, .tup q r, h => .tup q (RDs.shrink r (by unfold DI.noRef at h; exact h))
  | _, _, .fl h1 h2 h3 r, h => .fl (fun hm => h1 (List.mem_append_left _ hm)) h2 h3 (RDs.shrink r (by unfold DI.noRef at h; exact h))
  | _, _, .kl q r, h => .kl (q.elim (fun ⟨h1, h2, h3⟩ => .inl ⟨fun hm => h1 (List.mem_append_left _ hm), h2, h3⟩) .inr) (RDs.shrink r (by unfold DI.noRef at h; exact h))
  | _, _, .dct q, h => .dct (by unfold DI.noRef at h; rw [← List.getElem?_append_left (l₂ := ps) (of_decide_eq_true h)]; exact q)
  | _, _, .lst q, h => .lst (by unfold DI.noRef at h; rw [← List.getElem?_append_left (l₂ := ps) (of_decide_eq_true h)]; exact q)
  | _, _, .fn q, _ => .fn q
theorem RDs.shrink : ∀ {ds : List D} {vs : List V}, RDs K fa pr (ph ++ ps) H ds vs → DI.noRefs ph.length ds = true → RDs K fa pr ph H ds vs
  | _, _, .nil, _ => .nil
  | _, _, .cons h r, hn => by
    unfold DI.noRefs at hn
    rw [Bool.and_eq_true] at hn
    exact .cons (RD.shrink h hn.1) (RDs.shrink r hn.2)
end
theorem frzs_ok {m : Nat} (o : SOk K fa pr (ph ++ ps) S1 H) (ih : ∀ {d d' : D} {v : V}, RD K fa pr (ph ++ ps) H d v → frz ph.length S1 m d = some d' → RD K fa pr ph H d' v) :
    ∀ {ds ds' : List D} {vs : List V}, RDs K fa pr (ph ++ ps) H ds vs → ds.mapM (frz ph.length S1 m) = some ds' → RDs K fa pr ph H ds' vs := by
  intro ds
  induction ds with
  | nil =>
    intro ds' vs r e
    cases r
    simp at e
    subst e
    exact .nil
  | cons d ds ihs =>
    intro ds' vs r e
    cases r with
    | cons h r =>
      rw [List.mapM_cons] at e
      cases e1 : frz ph.length S1 m d with
      | none => rw [e1] at e; cases e
      | some d' =>
        rw [e1] at e
        cases e2 : ds.mapM (frz ph.length S1 m) with
        | none => rw [e2] at e; cases e
        | some ds'' =>
          rw [e2] at e
          cases e
          exact .cons (ih h e1) (ihs r e2)
theorem frz_ok (o : SOk K fa pr (ph ++ ps) S1 H) : ∀ (m : Nat) {d d' : D} {v : V}, RD K fa pr (ph ++ ps) H d v → frz ph.length S1 m d = some d' → RD K fa pr ph H d' v
  | 0, d, d', v, r, e => by
    unfold frz at e
    split at e
    · cases e; exact r.shrink ‹_›
    · cases e
  | m + 1, d, d', v, r, e => by
    have ihs := fun {ds ds' : List D} {vs : List V} (r : RDs K fa pr (ph ++ ps) H ds vs) (e : ds.mapM (frz ph.length S1 m) = some ds') => frzs_ok o (fun r e => frz_ok o m r e) r e
    unfold frz at e
    split at e
    · cases e; exact r.shrink ‹_›
    · rename_i hn
      cases r with
      | @tup ds a vs q w =>
        simp only at e
        cases e1 : ds.mapM (frz ph.length S1 m) with
        | none => rw [e1] at e; cases e
        | some ds' => rw [e1] at e; cases e; exact .tup q (ihs w e1)
      | @fl ds a vs h1 h2 h3 w =>
        simp only at e
        cases e1 : ds.mapM (frz ph.length S1 m) with
        | none => rw [e1] at e; cases e
        | some ds' => rw [e1] at e; cases e; exact .fl (fun hm => h1 (List.mem_append_left _ hm)) h2 h3 (ihs w e1)
      | @lst k a q =>
        simp only at e
        split at e
        · rename_i ds e0
          cases e1 : ds.mapM (frz ph.length S1 m) with
          | none => rw [e1] at e; cases e
          | some ds' =>
            rw [e1] at e; cases e
            obtain ⟨vs, h3, w⟩ := o.lst e0 q
            have hk : ph.length ≤ k := by
              refine Nat.le_of_not_lt fun hlt => hn ?_
              unfold DI.noRef
              exact decide_eq_true hlt
            refine .fl (fun hm => ?_) (fun hm => (o.prs a hm).1 (List.mem_of_getElem? q)) h3 (ihs w e1)
            obtain ⟨j, hj⟩ := List.getElem?_of_mem hm
            have hjl := (List.getElem?_eq_some_iff.mp hj).1
            have hj' : (ph ++ ps)[j]? = some a := by rw [List.getElem?_append_left hjl]; exact hj
            have : j = k := (List.getElem?_inj (by rw [List.length_append]; omega) o.nd).mp (hj'.trans q.symm)
            omega
        · cases e
      | _ => cases e
theorem RSl.start {N : List Str} {ds : List D} {vs : List V} (r : RDs K fa pr ph H ds vs) (ns : Nat) (hn : ns = N.length) : RSl K fa pr ph H (ds.map some ++ List.replicate (ns - ds.length) none) (L2.start N vs) := by
  unfold L2.start
  refine ⟨by simp [r.length, hn], fun i d h => ?_⟩
  by_cases hi : i < ds.length
  · rw [List.getElem?_append_left (by simpa using hi)] at h
    rw [List.getElem?_append_left (by simpa [← r.length] using hi)]
    rw [List.getElem?_map] at h ⊢
    cases e : ds[i]? with
    | none => rw [e] at h; cases h
    | some d' =>
      rw [e] at h
      cases h
      obtain ⟨v, h1, h2⟩ := r.get e
      exact ⟨v, by rw [h1]; rfl, h2⟩
  · rw [List.getElem?_append_right (by simpa using hi)] at h
    have := List.mem_of_getElem? h
    simp at this
/-- the store of the caller -/
theorem SOk.back (o0 : SOk K fa pr ph S H) (n : Nxt ph H (ph ++ ps) H') (o : SOk K fa pr (ph ++ ps) S1 H') (h : okStore S S1 = true) : SOk K fa pr ph (S1.take S.length) H' := by
  unfold okStore at h
  rw [Bool.and_eq_true, decide_eq_true_eq, List.all_eq_true] at h
  have hl := o0.len
  refine ⟨by rw [List.length_take, hl]; omega, (List.nodup_append.mp o.nd).1, fun k c a h1 h2 => ?_, fun a ha => ?_⟩
  · have hk : k < S.length := by rw [← hl]; exact (List.getElem?_eq_some_iff.mp h2).1
    rw [List.getElem?_take_of_lt hk] at h1
    obtain ⟨u, e, sh, w⟩ := o.cell k c a h1 (by rw [List.getElem?_append_left (by rw [hl]; exact hk)]; exact h2)
    have hc := h.2 k (List.mem_range.mpr hk)
    rw [Bool.or_eq_true, decide_eq_true_eq] at hc
    refine ⟨u, e, sh, w.shrink ?_⟩
    rcases hc with hc | hc
    · rw [h1] at hc
      obtain ⟨u0, _, _, w0⟩ := o0.cell k _ a hc.symm h2
      exact w0.noRefs
    · rw [h1] at hc
      have hc : flatC S.length c = true := hc
      unfold flatC at hc
      rw [hl]; exact hc
  · obtain ⟨h1, h2⟩ := o.prs a ha
    exact ⟨fun hm => h1 (List.mem_append_left _ hm), h2⟩
end
theorem Nxt.back {ph ps : List Addr} {H H' : Hp} (n : Nxt ph H (ph ++ ps) H') : Nxt ph H ph H' := ⟨⟨[], by simp⟩, fun _ h hn => absurd h hn, n.ext⟩
/-- a def's end -/
theorem post_fin {G : Glb} {ph : List Addr} {H : Hp} {S : Store} {keep : Bool} {r : F} {Q : VK} {E : XK} (o : G.SOk ph S H) (h : Post G ph H [] (fun cv dd _ H' => E cv dd H') G.RD (fin S keep r) Q) : PostF G ph H (fun cv dd _ H' => E cv dd H') r { nx := fun _ H' => Q .non H', rt := Q } := by
  have key : ∀ {d : D} {S1 : Store}, Post G ph H [] (fun cv dd _ H' => E cv dd H') G.RD (cut S keep d S1) Q → ∀ ph' H' v, Nxt ph H ph' H' → G.SOk ph' S1 H' → G.RD ph' H' d v → Q v H' := by
    intro d S1 h ph' H' v n o' rd
    unfold cut at h
    split at h
    · exact h ph' H' v n o' rd
    · split at h
      · rename_i hs
        obtain ⟨ps, rfl⟩ := n.app
        split at h
        · rename_i d' e
          rw [← o.len] at e
          exact h ph H' v n.back (SOk.back o n o' hs) (frz_ok o' 5 rd e)
        · exact h.elim
      · exact h.elim
  cases r with
  | nx s S1 => exact fun ph' H' σ' n' o' _ => key h ph' H' .non n' o' .non
  | rt d S1 => exact fun ph' H' v n' o' rd => key h ph' H' v n' o' rd
  | bk s S1 => exact h.elim
  | ct s S1 => exact h.elim
  | no => exact h.elim
  | ex c pl s S1 =>
    unfold fin at h
    simp only at h
    split at h
    · rename_i hs
      rw [Bool.and_eq_true] at hs
      refine fun ph' H' σ' cv dd n' o' rs' hx => ?_
      obtain ⟨ps, rfl⟩ := n'.app
      exact h ph H' cv dd n'.back (SOk.back o n' o' hs.1) hx
    · exact h.elim

/-! ### the defs of a law -/
/-- one def: its name, its statement in the row, its slots' names -/
structure Df where
  x : Str
  st : Stmt
  N : List Str
  ps : List Str
def gamOf (d : Df) : Gam := ⟨d.N, defScope d.st, fun _ => true⟩
/-- what a def must have in the program -/
structure DfOk (G : Glb) (T : Tab) (d : Df) (f : Fn) (a : Addr) : Prop where
  fn : ∃ fd, Fun G.K d.x d.x d.st a fd ∧ Binds G.K fd d.ps []
  sc : FnScope d.N d.ps (defScope d.st)
  ps : f.ps = d.ps.length
  ns : f.ns = d.N.length
  body : ∀ cf n, SSs T cf n (gamOf d) f.body (defBody d.st)
theorem fns_ok {G : Glb} {T : Tab} {P : List Fn} {ds : List Df} (n : Nat) (tab : TabOk G T) (hl : ∀ (i : Nat) (a : Addr), G.fa[i]? = some a → ∃ d f, ds[i]? = some d ∧ P[i]? = some f ∧ DfOk G T d f a) :
    ∀ (lv i : Nat) (a : Addr) (d : Df), G.fa[i]? = some a → ds[i]? = some d → ∀ fd, Fun G.K d.x d.x d.st a fd → FnOk G.P G.w G.K G.mg G.base (L2.CX G.P G.w) lv a fd d.ps (spI G (callF P n lv) i) := by
  intro lv
  induction lv with
  | zero =>
    intro i a d ha hd fd F
    refine ⟨fun vs H Q E h => ?_, fun A outer s H args us vs Q E hr he hb hv h => ?_⟩
    · obtain ⟨pr, ph, S, ds, _, _, h⟩ := h
      exact h.elim
    · obtain ⟨pr, ph, S, ds, _, _, h⟩ := h
      exact h.elim
  | succ lv ih =>
    intro i a d ha hd fd F
    obtain ⟨d1, f, h1, h2, ok⟩ := hl i a ha
    obtain rfl : d = d1 := Option.some.inj (hd.symm.trans h1)
    have lens : ∀ vs H Q E, spI G (callF P n (lv + 1)) i vs H Q E → vs.length = d.ps.length := fun vs H Q E h => by
      obtain ⟨pr, ph, S, es, o, r, h⟩ := h
      unfold callF at h
      simp only [h2] at h
      split at h
      · rename_i e
        rw [← r.length, e, ok.ps]
      · exact h.elim
    refine F.okX ok.sc lens fun cdv A outer s H vs Q E hr hsp => ?_
    have hpl := lens vs H Q E hsp
    obtain ⟨pr, ph, S, es, o, r, h⟩ := hsp
    unfold callF at h
    simp only [h2] at h
    split at h
    · rename_i e
      have hx : (cxOf (L2.CX G.P G.w) G.P G.w G.K G.mg G.base d.N d.x (defScope d.st) a cdv A outer s H E).xe = fun e s' => wpAny (model G.P G.w) (A.deeper (envOfC d.x (defScope d.st) s.heap.objs.size a cdv)) (leaving (envOfC d.x (defScope d.st) s.heap.objs.size a cdv) e) (fun _ s'' => L2.CX G.P G.w outer H s E e s'') (fun e' s'' => L2.CX G.P G.w outer H s E e' s'') s' := rfl
      have gd : GoodS G T (callF P n lv) (gamOf d) (cxOf (L2.CX G.P G.w) G.P G.w G.K G.mg G.base d.N d.x (defScope d.st) a cdv A outer s H E) (fun cls dd _ H' => E cls dd H') :=
        { tab := tab, prog := rfl, w := rfl, K := rfl, mg := rfl, base := rfl, N := rfl, sc := rfl, fn := rfl, nd := ok.sc.nd, calm := rfl
          tk := fun u s' x => XE.leave (X := cxOf (L2.CX G.P G.w) G.P G.w G.K G.mg G.base d.N d.x (defScope d.st) a cdv A outer s H E) (W := fun cls d _ H => E cls d H) (E := E) rfl rfl rfl (fun _ _ _ _ h => h) x
          pass := PassesOwn.leaving
          units := by have := hr.un; show (A.deeper _).units + 200 < _; omega
          calls := fun j b hb => by
            obtain ⟨d', f', e1, e2, ok'⟩ := hl j b hb
            obtain ⟨fd', F', B'⟩ := ok'.fn
            exact ⟨lv, fd', d'.ps, hr, ih j b d' hb e1 fd' F', F'.kp, B'⟩
          stk := rfl, frm := rfl }
      refine ⟨_, ok.body (callF P n lv) n G _ _ gd, pr, ph, _, S, ?_, o, post_fin o h⟩
      exact RSl.start (N := d.N) r f.ns ok.ns
    · exact h.elim
end DI
end
section
set_option maxRecDepth 100000
set_option maxHeartbeats 1000000
/-! DI15: dicts. -/
namespace DI
open PySem PySem.Spec PyProof.Rows L2
section
variable {K : PySem.W.Frag} {fa pr ph : List Addr} {H : Hp} {S : Store} {κ : Type} [DecidableEq κ]
theorem look_rel : ∀ {kvs : List (κ × D)} {ws : List (κ × V)}, kvs.map (·.1) = ws.map (·.1) → DI.RDs K fa pr ph H (kvs.map (·.2)) (ws.map (·.2)) → ∀ k, (lookD kvs k).isSome = (valV ws k).isSome ∧ ∀ d, lookD kvs k = some d → ∃ v, valV ws k = some v ∧ DI.RD K fa pr ph H d v
  | [], [], _, _, k => ⟨rfl, fun d h => by cases h⟩
  | p :: kvs, q :: ws, h1, h2, k => by
    rw [List.map_cons, List.map_cons] at h1 h2
    cases h2 with
    | cons r w =>
      have e1 : p.1 = q.1 := (List.cons.inj h1).1
      have ih := look_rel (List.cons.inj h1).2 w k
      unfold lookD valV at ih ⊢
      rw [List.find?_cons, List.find?_cons, ← e1]
      cases hk : decide (p.1 = k) with
      | true => exact ⟨rfl, fun d h => by cases h; exact ⟨_, rfl, r⟩⟩
      | false => exact ih
  | [], _ :: _, h, _, _ => by cases h
  | _ :: _, [], h, _, _ => by cases h
theorem any_rel : ∀ {kvs : List (κ × D)} {ws : List (κ × V)}, kvs.map (·.1) = ws.map (·.1) → ∀ k, (kvs.any fun kv => decide (kv.1 = k)) = ws.any fun kv => decide (kv.1 = k)
  | [], [], _, k => rfl
  | p :: kvs, q :: ws, h1, k => by
    rw [List.map_cons, List.map_cons] at h1
    rw [List.any_cons, List.any_cons, any_rel (List.cons.inj h1).2 k, (List.cons.inj h1).1]
  | [], _ :: _, h, _ => by cases h
  | _ :: _, [], h, _ => by cases h
theorem repl_rel {d : D} {v : V} (rd : DI.RD K fa pr ph H d v) (k : κ) : ∀ {kvs : List (κ × D)} {ws : List (κ × V)}, kvs.map (·.1) = ws.map (·.1) → DI.RDs K fa pr ph H (kvs.map (·.2)) (ws.map (·.2)) →
    (kvs.map fun kv => if kv.1 = k then (kv.1, d) else kv).map (·.1) = (ws.map fun kv => if kv.1 = k then (kv.1, v) else kv).map (·.1) ∧
      DI.RDs K fa pr ph H ((kvs.map fun kv => if kv.1 = k then (kv.1, d) else kv).map (·.2)) ((ws.map fun kv => if kv.1 = k then (kv.1, v) else kv).map (·.2))
  | [], [], _, _ => ⟨rfl, .nil⟩
  | p :: kvs, q :: ws, h1, h2 => by
    rw [List.map_cons, List.map_cons] at h1 h2
    cases h2 with
    | cons r w =>
      have e1 : p.1 = q.1 := (List.cons.inj h1).1
      obtain ⟨i1, i2⟩ := repl_rel rd k (List.cons.inj h1).2 w
      simp only [List.map_cons]
      by_cases hk : p.1 = k
      · rw [if_pos hk, if_pos (e1 ▸ hk)]
        exact ⟨by rw [i1, e1], .cons rd i2⟩
      · rw [if_neg hk, if_neg (e1 ▸ hk)]
        exact ⟨by rw [i1, e1], .cons r i2⟩
  | [], _ :: _, h, _ => by cases h
  | _ :: _, [], h, _ => by cases h
theorem store_rel {d : D} {v : V} (rd : DI.RD K fa pr ph H d v) (k : κ) {kvs : List (κ × D)} {ws : List (κ × V)} (h1 : kvs.map (·.1) = ws.map (·.1)) (h2 : DI.RDs K fa pr ph H (kvs.map (·.2)) (ws.map (·.2))) :
    (storeD kvs k d).map (·.1) = (putK ws k v).map (·.1) ∧ DI.RDs K fa pr ph H ((storeD kvs k d).map (·.2)) ((putK ws k v).map (·.2)) := by
  unfold storeD putK
  rw [any_rel h1 k]
  split
  · exact repl_rel rd k h1 h2
  · rw [List.map_append, List.map_append, List.map_append, List.map_append, h1]
    exact ⟨rfl, h2.append (.cons rd .nil)⟩
theorem keyOf_rel {d : D} {v : V} {k : Key} (rd : DI.RD K fa pr ph H d v) (h : keyOf d = some k) : v = kV k := by
  cases rd <;> simp only [keyOf] at h <;> first | (cases h; done) | (cases h; rfl)
theorem keysOf_rel : ∀ {ds : List D} {vs : List V} {ks : List Key}, DI.RDs K fa pr ph H ds vs → keysOf ds = some ks → vs = ks.map kV
  | _, _, ks, .nil, h => by cases h; rfl
  | _, _, ks, .cons (d := d) (ds := ds) r w, h => by
    simp only [keysOf] at h
    cases e1 : keyOf d with
    | none => rw [e1] at h; cases h
    | some k =>
      cases e2 : keysOf ds with
      | none => rw [e1, e2] at h; cases h
      | some ks' =>
        rw [e1, e2] at h
        cases h
        rw [List.map_cons, keyOf_rel r e1, keysOf_rel w e2]
theorem SOk.dk (o : DI.SOk K fa pr ph S H) {k : Nat} {kvs : List (Key × D)} {a : Addr} (h1 : cellK S k = some kvs) (h2 : ph[k]? = some a) : ∃ ws, H a = some (.dK ws) ∧ kvs.map (·.1) = ws.map (·.1) ∧ DI.RDs K fa pr ph H (kvs.map (·.2)) (ws.map (·.2)) := by
  unfold cellK at h1
  split at h1
  · rename_i e
    cases h1
    obtain ⟨u, e', sh, w⟩ := o.cell k _ a e h2
    cases u with
    | dK ws => exact ⟨ws, e', sh, w⟩
    | _ => exact sh.elim
  · cases h1
theorem SOk.dt (o : DI.SOk K fa pr ph S H) {k : Nat} {kvs : List (List Key × D)} {a : Addr} (h1 : cellT S k = some kvs) (h2 : ph[k]? = some a) : ∃ ws, H a = some (.dT ws) ∧ kvs.map (·.1) = ws.map (·.1) ∧ DI.RDs K fa pr ph H (kvs.map (·.2)) (ws.map (·.2)) := by
  unfold cellT at h1
  split at h1
  · rename_i e
    cases h1
    obtain ⟨u, e', sh, w⟩ := o.cell k _ a e h2
    cases u with
    | dT ws => exact ⟨ws, e', sh, w⟩
    | _ => exact sh.elim
  · cases h1
end
section
variable {T : Tab} {cf : Nat → List D → Store → R D} {n : Nat} {g : Gam} {G : Glb} {X : Cx} {W : WX} {pos p p1 p2 p3 q tpos : Pos} {x : Str} {a b c : E} {ea eb ec tg : Expr} {cs ks : List E} {es elts : List Expr} {k kk i : Nat}
theorem se_newK : SE T cf g .newK (.Dict [] [] pos) := fun G X W gd => pe_dnewK.imp fun σ H Q ⟨pr, ph, s, S, rs, o, h⟩ p hp => by
  simp only [evalE] at h
  exact h.ok' (Nxt.cell hp) (o.pushC (c0 := .dK []) hp rfl .nil) (.dct (by rw [← o.len]; simp))
theorem se_newT : SE T cf g .newT (.Dict [] [] pos) := fun G X W gd => pe_dnewT.imp fun σ H Q ⟨pr, ph, s, S, rs, o, h⟩ p hp => by
  simp only [evalE] at h
  exact h.ok' (Nxt.cell hp) (o.pushC (c0 := .dT []) hp rfl .nil) (.dct (by rw [← o.len]; simp))
theorem Good.u1 (gd : Good G T cf g X W) : X.A.units + 1 < cLine := by have := gd.units; omega
theorem inK_read {ng : Bool} {σ : L2.St} {H : Hp} {Q : VK} (h : tE G cf W (.inK ng a b) σ H Q) : tE G cf W a σ H fun y H1 => tE G cf W b σ H1 fun x H2 => ∃ a o, x = .ref a ∧ DGet H2 a y o ∧ Q (.bl (ng != o.isSome)) H2 := by
  obtain ⟨pr, ph, s, S, rs, o, h⟩ := h
  simp only [evalE] at h
  refine ⟨pr, ph, s, S, rs, o, h.seq.imp fun v H1 ⟨ph1, S1, d, n1, o1, rd, _, h1⟩ => ?_⟩
  refine ⟨pr, ph1, s, S1, rs.next n1 o, o1, h1.seq.imp fun v2 H2 ⟨ph2, S2, d2, n2, o2, rd2, _, h2⟩ => ?_⟩
  unfold inKD at h2
  split at h2
  · cases rd2 with
    | dct hk =>
      obtain ⟨ky, e1, h2⟩ := h2.opt
      obtain ⟨kvs, e2, h2⟩ := h2.opt
      obtain ⟨ws, e3, e4, w⟩ := o2.dk e2 hk
      refine ⟨_, valV ws ky, rfl, by rw [keyOf_rel (rd.next n2 o1) e1]; exact DGet.k e3, ?_⟩
      rw [← (look_rel e4 w ky).1]
      exact h2.val o2 (.bl _)
  · exact h2.elim
theorem se_inK {ng : Bool} (ha : SE T cf g a ea) (hb : SE T cf g b eb) (hm : setB eb = false) : SE T cf g (.inK ng a b) (.Compare ea [if ng then .NotIn else .In] [eb] pos) := fun G X W gd => by
  cases ng with
  | false => exact (pe_cmp (pc_din gd.u1 (ha G X W gd) (hb G X W gd)) (mark_none hm .In)).imp fun σ H Q h => tE_mono _ _ _ _ (fun _ _ q => tE_mono _ _ _ _ (fun _ _ ⟨a, o, h1, h2, h3⟩ => ⟨a, o, h1, h2, by simpa using h3⟩) q) (inK_read h)
  | true => exact (pe_cmp (pc_dnotin gd.u1 (ha G X W gd) (hb G X W gd)) (mark_none hm .NotIn)).imp fun σ H Q h => tE_mono _ _ _ _ (fun _ _ q => tE_mono _ _ _ _ (fun _ _ ⟨a, o, h1, h2, h3⟩ => ⟨a, o, h1, h2, by simpa using h3⟩) q) (inK_read h)
/-- a written tuple as a key -/
theorem inT_read {ng : Bool} {σ : L2.St} {H : Hp} {Q : VK} (h : tE G cf W (.inT ng ks b) σ H Q) : tTup (tEs G cf W ks) σ H fun y H1 => tE G cf W b σ H1 fun x H2 => ∃ a o, x = .ref a ∧ DGet H2 a y o ∧ Q (.bl (ng != o.isSome)) H2 := by
  obtain ⟨pr, ph, s, S, rs, o, h⟩ := h
  simp only [evalE] at h
  refine ⟨pr, ph, s, S, rs, o, (h.seq (Ra := (G.wp pr).RDs)).imp fun vs H1 ⟨ph1, S1, ds, n1, o1, rds, _, h1⟩ => ?_⟩
  split at h1
  · rename_i hl
    refine ⟨by rw [← rds.length, ← limEq]; exact hl, fun p hp => ?_⟩
    have nl : Nxt ph1 H1 ph1 (upd H1 p (.tup vs)) := Nxt.laid hp
    have ol := SOk.laid (u := .tup vs) o1 hp
    refine ⟨pr, ph1, s, S1, (rs.next n1 o).next nl o1, ol, (h1.from nl).seq.imp fun v2 H2 ⟨ph2, S2, d2, n2, o2, rd2, _, h2⟩ => ?_⟩
    unfold inTD at h2
    split at h2
    · cases rd2 with
      | dct hk =>
        obtain ⟨ky, e1, h2⟩ := h2.opt
        obtain ⟨kvs, e2, h2⟩ := h2.opt
        obtain ⟨ws, e3, e4, w⟩ := o2.dt e2 hk
        have hpk : H2 p = some (.tup (ky.map kV)) := by
          rw [← keysOf_rel rds e1]
          exact n2.ext p _ upd_same fun hm => by
            obtain ⟨u, e, _⟩ := o1.get hm
            rw [hp] at e; cases e
        refine ⟨_, valV ws ky, rfl, DGet.t e3 hpk, ?_⟩
        rw [← (look_rel e4 w ky).1]
        exact h2.val o2 (.bl _)
    · exact h2.elim
  · exact h1.elim
theorem se_inT {ng : Bool} (ha : SEs T cf g ks es) (hb : SE T cf g b eb) (hm : setB eb = false) : SE T cf g (.inT ng ks b) (.Compare (.Tuple es kk p) [if ng then .NotIn else .In] [eb] pos) := fun G X W gd => by
  have mono : ∀ {σ : L2.St} {H : Hp} {Q Q' : VK}, (∀ v H, Q v H → Q' v H) → tTup (tEs G cf W ks) σ H Q → tTup (tEs G cf W ks) σ H Q' := fun hq h => tEs_mono _ _ _ _ (fun vs H2 ⟨h1, h2⟩ => ⟨h1, fun p hp => hq _ _ (h2 p hp)⟩) h
  cases ng with
  | false => exact (pe_cmp (pc_din gd.u1 (pe_tup (ha G X W gd)) (hb G X W gd)) (mark_none hm .In)).imp fun σ H Q h => mono (fun _ _ q => tE_mono _ _ _ _ (fun _ _ ⟨a, o, h1, h2, h3⟩ => ⟨a, o, h1, h2, by simpa using h3⟩) q) (inT_read h)
  | true => exact (pe_cmp (pc_dnotin gd.u1 (pe_tup (ha G X W gd)) (hb G X W gd)) (mark_none hm .NotIn)).imp fun σ H Q h => mono (fun _ _ q => tE_mono _ _ _ _ (fun _ _ ⟨a, o, h1, h2, h3⟩ => ⟨a, o, h1, h2, by simpa using h3⟩) q) (inT_read h)
theorem noSl {e : Expr} (h : sliceB e = false) : NoSl e := by
  cases e <;> first | (intro _ _; rfl) | cases h
theorem se_getK (ha : SE T cf g a ea) (hb : SE T cf g b eb) (hm : sliceB eb = false) : SE T cf g (.getK a b) (.Subscript ea eb pos) := fun G X W gd =>
  (pe_dget gd.u1 (ha G X W gd) (hb G X W gd) (noSl hm)).imp fun σ H Q ⟨pr, ph, s, S, rs, o, h⟩ => by
    simp only [evalE] at h
    refine ⟨pr, ph, s, S, rs, o, h.seq.imp fun v H1 ⟨ph1, S1, d, n1, o1, rd, _, h1⟩ => ?_⟩
    refine ⟨pr, ph1, s, S1, rs.next n1 o, o1, h1.seq.imp fun v2 H2 ⟨ph2, S2, d2, n2, o2, rd2, _, h2⟩ => ?_⟩
    unfold getKD at h2
    split at h2
    · cases rd.next n2 o1 with
      | dct hk =>
        obtain ⟨ky, e1, h2⟩ := h2.opt
        obtain ⟨kvs, e2, h2⟩ := h2.opt
        obtain ⟨dv, e5, h2⟩ := h2.opt
        obtain ⟨ws, e3, e4, w⟩ := o2.dk e2 hk
        obtain ⟨v, e6, r⟩ := (look_rel e4 w ky).2 dv e5
        exact ⟨_, v, rfl, by rw [keyOf_rel rd2 e1, ← e6]; exact DGet.k e3, h2.val o2 r⟩
    · exact h2.elim
theorem se_getT (ha : SE T cf g a ea) (hb : SEs T cf g ks es) : SE T cf g (.getT a ks) (.Subscript ea (.Tuple es kk p) pos) := fun G X W gd =>
  (pe_dget gd.u1 (ha G X W gd) (pe_tup (hb G X W gd)) (noSl rfl)).imp fun σ H Q ⟨pr, ph, s, S, rs, o, h⟩ => by
    simp only [evalE] at h
    refine ⟨pr, ph, s, S, rs, o, h.seq.imp fun v H1 ⟨ph1, S1, d, n1, o1, rd, _, h1⟩ => ?_⟩
    refine ⟨pr, ph1, s, S1, rs.next n1 o, o1, (h1.seq (Ra := (G.wp pr).RDs)).imp fun vs H2 ⟨ph2, S2, ds, n2, o2, rds, _, h2⟩ => ?_⟩
    split at h2
    · rename_i hl
      refine ⟨by rw [← rds.length, ← limEq]; exact hl, fun p hp => ?_⟩
      unfold getTD at h2
      split at h2
      · cases rd.next n2 o1 with
        | dct hk =>
          obtain ⟨ky, e1, h2⟩ := h2.opt
          obtain ⟨kvs, e2, h2⟩ := h2.opt
          obtain ⟨dv, e5, h2⟩ := h2.opt
          have nl : Nxt ph2 H2 ph2 (upd H2 p (.tup vs)) := Nxt.laid hp
          have ol := SOk.laid (u := .tup vs) o2 hp
          obtain ⟨ws, e3, e4, w⟩ := ol.dt e2 hk
          obtain ⟨v, e6, r⟩ := (look_rel e4 w ky).2 dv e5
          exact ⟨_, v, rfl, by rw [← e6]; exact DGet.t e3 (by rw [upd_same, keysOf_rel rds e1]), h2.ok' nl ol r⟩
      · exact h2.elim
    · exact h2.elim
theorem ss_putK (ho : SE T cf g a ea) (hi : SE T cf g b eb) (hv : SE T cf g c ec) : SS T cf n g (.putK a b c) (.Assign [.Subscript ea eb p] ec pos) := fun G X W gd =>
  (ps_dput gd.u1 (ho G X W gd.toGood) (hi G X W gd.toGood) (hv G X W gd.toGood) (swaps_sub _ _ _)).imp fun Dn σ H ⟨pr, ph, s, S, rs, o, h⟩ => by
    simp only [exec] at h
    refine ⟨pr, ph, s, S, rs, o, (PostF.seq (Ra := (G.wp pr).RD) (fun n1 => rs.next n1 o) h).imp fun v H1 ⟨ph1, S1, d, n1, o1, rd, _, h1⟩ => ?_⟩
    have rs1 := rs.next n1 o
    refine ⟨pr, ph1, s, S1, rs1, o1, (PostF.seq (Ra := (G.wp pr).RD) (fun n2 => rs1.next n2 o1) h1).imp fun v2 H2 ⟨ph2, S2, d2, n2, o2, rd2, _, h2⟩ => ?_⟩
    have rs2 := rs1.next n2 o1
    refine ⟨pr, ph2, s, S2, rs2, o2, (PostF.seq (Ra := (G.wp pr).RD) (fun n3 => rs2.next n3 o2) h2).imp fun v3 H3 ⟨ph3, S3, d3, n3, o3, rd3, _, h3⟩ => ?_⟩
    have rs3 := rs2.next n3 o2
    have rdv := (rd.next n2 o1).next n3 o2
    obtain ⟨k0, hd2⟩ : ∃ k0, d2 = .dct k0 := by
      cases d2 with
      | dct k => exact ⟨k, rfl⟩
      | _ => exact h3.elim
    subst hd2
    simp only [putKD] at h3
    · cases rd2.next n3 o2 with
      | dct hk =>
        cases e1 : keyOf d3 with
        | none => rw [e1] at h3; exact h3.elim
        | some ky =>
          rw [e1] at h3
          simp only [opt_some] at h3
          cases e2 : cellK S3 k0 with
          | none => rw [e2] at h3; exact h3.elim
          | some kvs =>
            rw [e2] at h3
            simp only [opt_some] at h3
            split at h3
            · rename_i hl
              obtain ⟨ws, e3, e4, w⟩ := o3.dk e2 hk
              obtain ⟨s1, s2⟩ := store_rel rdv ky e4 w
              have hlen : kvs.length = ws.length := by simpa using congrArg List.length e4
              refine ⟨_, _, rfl, by rw [keyOf_rel rd3 e1]; exact DPut.k e3 (by rw [← hlen, ← limEq]; exact hl), ?_⟩
              have nw : Nxt ph3 H3 ph3 (upd H3 _ (.dK (putK ws ky v))) := Nxt.write (List.mem_of_getElem? hk)
              exact h3 ph3 _ σ nw (o3.writeC (c0 := .dK (storeD kvs ky d)) hk s1 s2) (rs3.next nw o3)
            · exact h3.elim
theorem ss_putT (ho : SE T cf g a ea) (hi : SEs T cf g ks es) (hv : SE T cf g c ec) : SS T cf n g (.putT a ks c) (.Assign [.Subscript ea (.Tuple es kk q) p] ec pos) := fun G X W gd =>
  (ps_dput gd.u1 (ho G X W gd.toGood) (pe_tup (hi G X W gd.toGood)) (hv G X W gd.toGood) (swaps_sub _ _ _)).imp fun Dn σ H ⟨pr, ph, s, S, rs, o, h⟩ => by
    simp only [exec] at h
    refine ⟨pr, ph, s, S, rs, o, (PostF.seq (Ra := (G.wp pr).RD) (fun n1 => rs.next n1 o) h).imp fun v H1 ⟨ph1, S1, d, n1, o1, rd, _, h1⟩ => ?_⟩
    have rs1 := rs.next n1 o
    refine ⟨pr, ph1, s, S1, rs1, o1, (PostF.seq (Ra := (G.wp pr).RD) (fun n2 => rs1.next n2 o1) h1).imp fun v2 H2 ⟨ph2, S2, d2, n2, o2, rd2, _, h2⟩ => ?_⟩
    have rs2 := rs1.next n2 o1
    refine ⟨pr, ph2, s, S2, rs2, o2, (PostF.seq (Ra := (G.wp pr).RDs) (fun n3 => rs2.next n3 o2) h2).imp fun vs H3' ⟨ph3, S3, ds, n3, o3', rds, _, h3⟩ => ?_⟩
    split at h3
    · rename_i hl0
      refine ⟨by rw [← rds.length, ← limEq]; exact hl0, fun pp hp => ?_⟩
      have nl : Nxt ph3 H3' ph3 (upd H3' pp (.tup vs)) := Nxt.laid hp
      have o3 := SOk.laid (u := .tup vs) o3' hp
      have rs3 := (rs2.next n3 o2).next nl o3'
      have rdv := ((rd.next n2 o1).next n3 o2).next nl o3'
      have h3 := PostF.from h3 nl
      obtain ⟨k0, hd2⟩ : ∃ k0, d2 = .dct k0 := by
        cases d2 with
        | dct k => exact ⟨k, rfl⟩
        | _ => exact h3.elim
      subst hd2
      simp only [putTD] at h3
      · cases (rd2.next n3 o2).next nl o3' with
        | dct hk =>
          cases e1 : keysOf ds with
          | none => rw [e1] at h3; exact h3.elim
          | some ky =>
            rw [e1] at h3
            simp only [opt_some] at h3
            cases e2 : cellT S3 k0 with
            | none => rw [e2] at h3; exact h3.elim
            | some kvs =>
              rw [e2] at h3
              simp only [opt_some] at h3
              split at h3
              · rename_i hl
                obtain ⟨ws, e3, e4, w⟩ := o3.dt e2 hk
                obtain ⟨s1, s2⟩ := store_rel rdv ky e4 w
                have hlen : kvs.length = ws.length := by simpa using congrArg List.length e4
                refine ⟨_, _, rfl, DPut.t (k := ky) e3 (by rw [upd_same, keysOf_rel rds e1]) (by rw [← hlen, ← limEq]; exact hl), ?_⟩
                have nw : Nxt ph3 (upd H3' pp (.tup vs)) ph3 (upd (upd H3' pp (.tup vs)) _ (.dT (putK ws ky v))) := Nxt.write (List.mem_of_getElem? hk)
                exact h3 ph3 _ σ nw (o3.writeC (c0 := .dT (storeD kvs ky d)) hk s1 s2) (rs3.next nw o3)
              · exact h3.elim
    · exact h3.elim
end
end DI
end
section
set_option maxRecDepth 100000
set_option maxHeartbeats 2000000
/-! DI16: a text of the small language held against the program's own, by computation. -/
namespace DI
open PySem PySem.Spec PyProof.Rows L2

structure Chk where
  e : Gam → E → Expr → Bool
  t : Gam → E → Expr → Bool
  w : Gam → E → Expr → Bool
  es : Gam → List E → List Expr → Bool
  o : Gam → Option E → Option Expr → Bool
  fs : Gam → List E → List Expr → Bool
  i : Gam → It → Expr → Expr → Bool
  s : Gam → St → Stmt → Bool
  ss : Gam → List St → List Stmt → Bool
structure ChkOk (T : Tab) (cf : Nat → List D → Store → R D) (n : Nat) (r : Chk) : Prop where
  e : ∀ g c e, r.e g c e = true → SE T cf g c e
  t : ∀ g c e, r.t g c e = true → SeT T cf g c e
  w : ∀ g c e, r.w g c e = true → SeW T cf g c e
  es : ∀ g c e, r.es g c e = true → SEs T cf g c e
  o : ∀ g c e, r.o g c e = true → SeO T cf g c e
  fs : ∀ g c e, r.fs g c e = true → SIfs T cf g c e
  i : ∀ g c tg e, r.i g c tg e = true → SI T cf g c tg e
  s : ∀ g c e, r.s g c e = true → SS T cf n g c e
  ss : ∀ g c e, r.ss g c e = true → SSs T cf n g c e
def ownP (g : Gam) (own : List Nat) : List (Str × Nat) := own.map fun i => ((g.N[i]?).getD (Str.ofString ""), i)
theorem ownP_snd (g : Gam) (own : List Nat) : (ownP g own).map (·.2) = own := by
  unfold ownP
  rw [List.map_map]
  show own.map id = own
  exact List.map_id _
def tgB (g : Gam) (c : Tg) (e : Expr) : Bool := match c, e with
  | .nm i, .Name x _ => decide (g.N[i]? = some x) && locB g x
  | .tp is, .Tuple es _ _ => namesB g is es
  | _, _ => false
def inB (ng : Bool) (op : CmpOp) : Bool := match op with
  | .In => !ng
  | .NotIn => ng
  | _ => false
theorem inB_eq {ng : Bool} {op : CmpOp} (h : inB ng op = true) : op = if ng then .NotIn else .In := by
  cases op <;> cases ng <;> first | rfl | cases h
def oneC (e : Expr) : Bool := match e with
  | .UnaryOp .USub (.Constant (.int i) _ _) _ => decide (i = 1)
  | _ => false
def isN (x : Str) (s : String) : Bool := decide (x = Str.ofString s)
section
variable (T : Tab) (r : Chk)
def stepE (g : Gam) (c : E) (e : Expr) : Bool := match c with
  | .var i => match e with
    | .Name x _ => decide (g.N[i]? = some x) && visB g.sc x && okN x
    | _ => false
  | .con d => conB d e || match e with
    | .Name x _ => glB g.sc x && okN x && (decide (T.cons.lookup x = some d) || match d with
      | .fn f => decide (T.defs.lookup x = some f)
      | _ => false)
    | _ => false
  | .bin op a b => match e with
    | .BinOp ea op' eb _ => decide (op = op') && r.e g a ea && r.e g b eb
    | _ => false
  | .neg a => match e with
    | .UnaryOp .USub ea _ => r.e g a ea
    | _ => false
  | .not a => match e with
    | .UnaryOp .Not ea _ => r.e g a ea
    | _ => false
  | .cmp op a b => match e with
    | .Compare ea [op'] [eb] _ => decide (op = op') && !setB eb && r.e g a ea && r.e g b eb
    | _ => false
  | .chn op op' a b c => match e with
    | .Compare ea [o1, o2] [eb, ec] _ => decide (op = o1) && decide (op' = o2) && !setB ec && r.e g a ea && r.e g b eb && r.e g c ec
    | _ => false
  | .isIn ng a b => match e with
    | .Compare ea [op] [eb] _ => inB ng op && !setB eb && r.e g a ea && r.e g b eb
    | _ => false
  | .inK ng a b => match e with
    | .Compare ea [op] [eb] _ => inB ng op && !setB eb && r.e g a ea && r.e g b eb
    | _ => false
  | .inT ng a b => match e with
    | .Compare (.Tuple es _ _) [op] [eb] _ => inB ng op && !setB eb && r.es g a es && r.e g b eb
    | _ => false
  | .and cs => match e with
    | .BoolOp .And es p => (match cs, es with
      | [a], [ea] => r.e g a ea
      | a :: b :: cs, ea :: eb :: es => r.e g a ea && r.e g (.and (b :: cs)) (.BoolOp .And (eb :: es) p)
      | _, _ => false)
    | _ => false
  | .or cs => match e with
    | .BoolOp .Or es p => (match cs, es with
      | [a], [ea] => r.e g a ea
      | a :: b :: cs, ea :: eb :: es => r.e g a ea && r.e g (.or (b :: cs)) (.BoolOp .Or (eb :: es) p)
      | _, _ => false)
    | _ => false
  | .ite c a b => match e with
    | .IfExp ec ea eb _ => r.t g c ec && r.e g a ea && r.e g b eb
    | _ => false
  | .call f cs => match e with
    | .Call (.Name x _) (ea :: es) [] _ => decide (T.defs.lookup x = some f) && glB g.sc x && okN x && !starB ea && es.all (fun e => !starB e) && r.es g cs (ea :: es)
    | _ => false
  | .cllv i cs => match e with
    | .Call (.Name x _) (ea :: es) [] _ => decide (g.N[i]? = some x) && visB g.sc x && okN x && !starB ea && es.all (fun e => !starB e) && r.es g cs (ea :: es)
    | _ => false
  | .bi bb a => match e with
    | .Call (.Name x _) [ea] [] _ => isN x (biN bb) && decide (bb ≠ .list) && decide (bb ≠ .lenset) && bltB T g.sc x && !starB ea && r.e g a ea
    | _ => false
  | .lset a => match e with
    | .Call (.Name x _) [.Call (.Name y _) [ea] [] _] [] _ => isN x "len" && isN y "set" && bltB T g.sc x && bltB T g.sc y && !starB ea && r.e g a ea
    | _ => false
  | .isi a ts => match e with
    | .Call (.Name x _) [ea, .Name y _] [] _ => (match ts with
      | [t] => isN x "isinstance" && bltB T g.sc x && decide (tyOfN y = some t) && bltB T g.sc y && !starB ea && r.e g a ea
      | _ => false)
    | .Call (.Name x _) [ea, .Tuple es _ _] [] _ => (match ts with
      | t :: ts => isN x "isinstance" && bltB T g.sc x && tysOf T g.sc (t :: ts) es && decide (ts.length < 100) && !starB ea && r.e g a ea
      | _ => false)
    | _ => false
  | .me m a cs => match e with
    | .Call (.Attribute ea x apos) es [] pos => !superB ea && (apos.endLine == pos.line) && r.e g a ea && (match m, cs, es with
      | .append, [b], [eb] => isN x "append" && !starB eb && r.e g b eb
      | .pop1, [b], [eb] => isN x "pop" && !starB eb && r.e g b eb
      | .pop0, [], [] => isN x "pop"
      | _, _, _ => false)
    | _ => false
  | .ix a b => match e with
    | .Subscript ea eb _ => !sliceB eb && r.e g a ea && r.e g b eb
    | _ => false
  | .getK a b => match e with
    | .Subscript ea eb _ => !sliceB eb && r.e g a ea && r.e g b eb
    | _ => false
  | .getT a b => match e with
    | .Subscript ea (.Tuple es _ _) _ => r.e g a ea && r.es g b es
    | _ => false
  | .sl a lo hi => match e with
    | .Subscript ea (.Slice elo ehi none _) _ => r.e g a ea && r.o g lo elo && r.o g hi ehi
    | _ => false
  | .rev a => match e with
    | .Subscript ea (.Slice none none (some em) _) _ => oneC em && r.e g a ea
    | _ => false
  | .tup cs => match e with
    | .Tuple es _ _ => r.es g cs es
    | _ => false
  | .lst _ cs => match e with
    | .List es _ => r.es g cs es
    | _ => false
  | .lof _ a => match e with
    | .Call (.Name x _) [ea] [] _ => isN x "list" && bltB T g.sc x && !starB ea && r.e g a ea
    | _ => false
  | .newK => match e with
    | .Dict [] [] _ => true
    | _ => false
  | .newT => match e with
    | .Dict [] [] _ => true
    | _ => false
  | .cmph _ elt tgc it ifs own => match e with
    | .ListComp ea [⟨tg, iter, eifs, 0⟩] scope _ => r.i g it tg iter && blkC g.N g.sc scope (ownP g own) && tgB (g.blk scope) tgc tg && r.fs (g.blk scope) ifs eifs && r.e (g.blk scope) elt ea && !setB iter && (tgIs tgc).all (fun i => decide (i ∈ own))
    | _ => false
  | .cmph2 .. => false
def stepW (g : Gam) (c : E) (e : Expr) : Bool := match e with
  | .BoolOp .And es p => (match c with
    | .and cs => (match cs, es with
      | [a], [ea] => r.t g a ea
      | a :: b :: cs, ea :: eb :: es => r.t g a ea && r.w g (.and (b :: cs)) (.BoolOp .And (eb :: es) p)
      | _, _ => false)
    | _ => false)
  | .BoolOp .Or es p => (match c with
    | .or cs => (match cs, es with
      | [a], [ea] => r.t g a ea
      | a :: b :: cs, ea :: eb :: es => r.t g a ea && r.w g (.or (b :: cs)) (.BoolOp .Or (eb :: es) p)
      | _, _ => false)
    | _ => false)
  | _ => false
def boolB : Expr → Bool
  | .BoolOp .. => true | _ => false
def stepT (g : Gam) (c : E) (e : Expr) : Bool := if boolB e then r.w g c e else match e with
  | .UnaryOp .Not ea _ => (match c with
    | .not a => r.t g a ea
    | _ => false)
  | .Compare ea ops es _ => (match c with
    | .cmp op a b => (match ops, es with
      | [op'], [eb] => decide (op = op') && !setB eb && r.e g a ea && r.e g b eb
      | _, _ => false)
    | .chn op op' a b c => (match ops, es with
      | [o1, o2], [eb, ec] => decide (op = o1) && decide (op' = o2) && !setB ec && r.e g a ea && r.e g b eb && r.e g c ec
      | _, _ => false)
    | .isIn ng a b => (match ops, es with
      | [op], [eb] => inB ng op && !setB eb && r.e g a ea && r.e g b eb
      | _, _ => false)
    | _ => false)
  | e => plainT e && r.e g c e
def stepEs (g : Gam) (cs : List E) (es : List Expr) : Bool := match cs, es with
  | [], [] => true
  | c :: cs, e :: es => r.e g c e && !starB e && r.es g cs es
  | _, _ => false
def stepO (g : Gam) (c : Option E) (e : Option Expr) : Bool := match c, e with
  | none, none => true
  | some c, some e => r.e g c e
  | _, _ => false
def stepFs (g : Gam) (cs : List E) (es : List Expr) : Bool := match cs, es with
  | [], [] => true
  | [c], [e] => r.t g c e
  | _, _ => false
def tupB : Expr → Bool
  | .Tuple .. => true | _ => false
def stepI (g : Gam) (c : It) (tg e : Expr) : Bool := match c with
  | .seq a => r.e g a e
  | .rng1 a => match e with
    | .Call (.Name x _) [ea] [] _ => isN x "range" && bltB T g.sc x && !starB ea && r.e g a ea
    | _ => false
  | .rng2 a b => match e with
    | .Call (.Name x _) [ea, eb] [] _ => isN x "range" && bltB T g.sc x && !starB ea && !starB eb && r.e g a ea && r.e g b eb
    | _ => false
  | .zip a b => match e with
    | .Call (.Name x _) [ea, eb] [] _ => isN x "zip" && bltB T g.sc x && !starB ea && !starB eb && r.e g a ea && r.e g b eb && tupB tg
    | _ => false
  | .enum a => match e with
    | .Call (.Name x _) [ea] [] _ => isN x "enumerate" && bltB T g.sc x && !starB ea && r.e g a ea && tupB tg
    | _ => false
end
section
variable {T : Tab} {cf : Nat → List D → Store → R D} {n : Nat} {r : Chk} {g : Gam}
theorem isN_eq {x : Str} {s : String} (h : isN x s = true) : x = Str.ofString s := of_decide_eq_true h
theorem se_con {d : D} {e : Expr} (h : conB d e = true) : SE T cf g (.con d) e := fun G X W gd => (pe_con2 G X d h).imp fun σ H Q ⟨pr, ph, s, S, rs, o, h⟩ => by
  simp only [evalE] at h
  exact ⟨pr, ph, S, o, fun ph' H' v n' o' r' => h.ok' n' o' r'⟩
theorem oneC_eq {e : Expr} (h : oneC e = true) : ∃ k p1 p2, e = .UnaryOp .USub (.Constant (.int 1) k p1) p2 := by
  unfold oneC at h
  split at h
  · have := of_decide_eq_true h
    subst this
    exact ⟨_, _, _, rfl⟩
  · cases h
theorem tgB_ok {c : Tg} {e : Expr} (h : tgB g c e = true) : SG T cf g c e := by
  unfold tgB at h
  split at h
  · simp only [Bool.and_eq_true, decide_eq_true_eq] at h
    exact sg_nm h.1 h.2
  · exact sg_tp h
  · cases h
theorem stepE_ok (ok : ChkOk T cf n r) (c : E) (e : Expr) (h : stepE T r g c e = true) : SE T cf g c e := by
  cases c with
  | var i =>
    simp only [stepE] at h
    split at h
    · simp only [Bool.and_eq_true, decide_eq_true_eq] at h
      exact se_var h.1.1 h.1.2 h.2
    · cases h
  | con d =>
    simp only [stepE, Bool.or_eq_true] at h
    rcases h with h | h
    · exact se_con h
    · split at h
      · simp only [Bool.and_eq_true, Bool.or_eq_true, decide_eq_true_eq] at h
        obtain ⟨⟨h1, h2⟩, h | h⟩ := h
        · exact se_glo h h1 h2
        · split at h
          · exact se_def (of_decide_eq_true h) h1 h2
          · cases h
      · cases h
  | bin op a b =>
    simp only [stepE] at h
    split at h
    · simp only [Bool.and_eq_true, decide_eq_true_eq] at h
      obtain ⟨⟨rfl, h1⟩, h2⟩ := h
      exact se_bin (ok.e _ _ _ h1) (ok.e _ _ _ h2)
    · cases h
  | neg a =>
    simp only [stepE] at h
    split at h
    · exact se_neg (ok.e _ _ _ h)
    · cases h
  | not a =>
    simp only [stepE] at h
    split at h
    · exact se_not (ok.e _ _ _ h)
    · cases h
  | cmp op a b =>
    simp only [stepE] at h
    split at h
    · simp only [Bool.and_eq_true, Bool.not_eq_true', decide_eq_true_eq] at h
      obtain ⟨⟨⟨rfl, h0⟩, h1⟩, h2⟩ := h
      exact se_cmp (ok.e _ _ _ h1) (ok.e _ _ _ h2) h0
    · cases h
  | chn op op' a b c =>
    simp only [stepE] at h
    split at h
    · simp only [Bool.and_eq_true, Bool.not_eq_true', decide_eq_true_eq] at h
      obtain ⟨⟨⟨⟨⟨rfl, rfl⟩, h0⟩, h1⟩, h2⟩, h3⟩ := h
      exact se_chn (ok.e _ _ _ h1) (ok.e _ _ _ h2) (ok.e _ _ _ h3) h0
    · cases h
  | isIn ng a b =>
    simp only [stepE] at h
    split at h
    · simp only [Bool.and_eq_true, Bool.not_eq_true'] at h
      obtain ⟨⟨⟨h3, h0⟩, h1⟩, h2⟩ := h
      rw [inB_eq h3]
      exact se_in (ok.e _ _ _ h1) (ok.e _ _ _ h2) h0
    · cases h
  | inK ng a b =>
    simp only [stepE] at h
    split at h
    · simp only [Bool.and_eq_true, Bool.not_eq_true'] at h
      obtain ⟨⟨⟨h3, h0⟩, h1⟩, h2⟩ := h
      rw [inB_eq h3]
      exact se_inK (ok.e _ _ _ h1) (ok.e _ _ _ h2) h0
    · cases h
  | inT ng a b =>
    simp only [stepE] at h
    split at h
    · simp only [Bool.and_eq_true, Bool.not_eq_true'] at h
      obtain ⟨⟨⟨h3, h0⟩, h1⟩, h2⟩ := h
      rw [inB_eq h3]
      exact se_inT (ok.es _ _ _ h1) (ok.e _ _ _ h2) h0
    · cases h
  | and cs =>
    simp only [stepE] at h
    split at h
    · split at h
      · exact se_and1 (ok.e _ _ _ h)
      · rw [Bool.and_eq_true] at h
        exact se_and (ok.e _ _ _ h.1) (ok.e _ _ _ h.2)
      · cases h
    · cases h
  | or cs =>
    simp only [stepE] at h
    split at h
    · split at h
      · exact se_or1 (ok.e _ _ _ h)
      · rw [Bool.and_eq_true] at h
        exact se_or (ok.e _ _ _ h.1) (ok.e _ _ _ h.2)
      · cases h
    · cases h
  | ite c a b =>
    simp only [stepE] at h
    split at h
    · simp only [Bool.and_eq_true] at h
      exact se_ite (ok.t _ _ _ h.1.1) (ok.e _ _ _ h.1.2) (ok.e _ _ _ h.2)
    · cases h
  | call f cs =>
    simp only [stepE] at h
    split at h
    · simp only [Bool.and_eq_true, Bool.not_eq_true', decide_eq_true_eq] at h
      obtain ⟨⟨⟨⟨⟨h1, h2⟩, h3⟩, h4⟩, h5⟩, h6⟩ := h
      exact se_call h1 h2 h3 h4 h5 (ok.es _ _ _ h6)
    · cases h
  | cllv f cs =>
    simp only [stepE] at h
    split at h
    · simp only [Bool.and_eq_true, Bool.not_eq_true', decide_eq_true_eq] at h
      obtain ⟨⟨⟨⟨⟨h1, h2⟩, h3⟩, h4⟩, h5⟩, h6⟩ := h
      exact se_cllv h1 h2 h3 h4 h5 (ok.es _ _ _ h6)
    · cases h
  | bi bb a =>
    simp only [stepE] at h
    split at h
    · simp only [Bool.and_eq_true, Bool.not_eq_true', decide_eq_true_eq] at h
      obtain ⟨⟨⟨⟨⟨h1, h2⟩, h3⟩, h4⟩, h5⟩, h6⟩ := h
      exact se_bi (isN_eq h1) ⟨h2, h3⟩ h4 (ok.e _ _ _ h6) h5
    · cases h
  | lset a =>
    simp only [stepE] at h
    split at h
    · simp only [Bool.and_eq_true, Bool.not_eq_true'] at h
      obtain ⟨⟨⟨⟨⟨h1, h2⟩, h3⟩, h4⟩, h5⟩, h6⟩ := h
      exact se_lset (isN_eq h1) h3 (isN_eq h2) h4 (ok.e _ _ _ h6) h5
    · cases h
  | isi a ts =>
    simp only [stepE] at h
    split at h
    · split at h
      · simp only [Bool.and_eq_true, Bool.not_eq_true', decide_eq_true_eq] at h
        obtain ⟨⟨⟨⟨⟨h1, h2⟩, h3⟩, h4⟩, h5⟩, h6⟩ := h
        exact se_isi (isN_eq h1) h2 h3 h4 (ok.e _ _ _ h6) h5
      · cases h
    · split at h
      · simp only [Bool.and_eq_true, Bool.not_eq_true', decide_eq_true_eq] at h
        obtain ⟨⟨⟨⟨⟨h1, h2⟩, h3⟩, h4⟩, h5⟩, h6⟩ := h
        exact se_isiT (isN_eq h1) h2 h3 h4 (ok.e _ _ _ h6) h5
      · cases h
    · cases h
  | me m a cs =>
    simp only [stepE] at h
    split at h
    · rw [Bool.and_eq_true, Bool.and_eq_true, Bool.and_eq_true] at h
      obtain ⟨⟨⟨h1, h2⟩, h3⟩, h4⟩ := h
      have h1 := by simpa using h1
      split at h4
      · simp only [Bool.and_eq_true, Bool.not_eq_true'] at h4
        exact se_append (isN_eq h4.1.1) (ok.e _ _ _ h3) (ok.e _ _ _ h4.2) h4.1.2 h1 h2
      · simp only [Bool.and_eq_true, Bool.not_eq_true'] at h4
        exact se_pop1 (isN_eq h4.1.1) (ok.e _ _ _ h3) (ok.e _ _ _ h4.2) h4.1.2 h1 h2
      · exact se_pop0 (isN_eq h4) (ok.e _ _ _ h3) h1 h2
      · cases h4
    · cases h
  | ix a b =>
    simp only [stepE] at h
    split at h
    · simp only [Bool.and_eq_true, Bool.not_eq_true'] at h
      exact se_ix (ok.e _ _ _ h.1.2) (ok.e _ _ _ h.2) h.1.1
    · cases h
  | getK a b =>
    simp only [stepE] at h
    split at h
    · simp only [Bool.and_eq_true, Bool.not_eq_true'] at h
      exact se_getK (ok.e _ _ _ h.1.2) (ok.e _ _ _ h.2) h.1.1
    · cases h
  | getT a b =>
    simp only [stepE] at h
    split at h
    · rw [Bool.and_eq_true] at h
      exact se_getT (ok.e _ _ _ h.1) (ok.es _ _ _ h.2)
    · cases h
  | sl a lo hi =>
    simp only [stepE] at h
    split at h
    · simp only [Bool.and_eq_true] at h
      exact se_sl (ok.e _ _ _ h.1.1) (ok.o _ _ _ h.1.2) (ok.o _ _ _ h.2)
    · cases h
  | rev a =>
    simp only [stepE] at h
    split at h
    · rw [Bool.and_eq_true] at h
      obtain ⟨k, p1, p2, rfl⟩ := oneC_eq h.1
      exact se_rev (ok.e _ _ _ h.2)
    · cases h
  | tup cs =>
    simp only [stepE] at h
    split at h
    · exact se_tup (ok.es _ _ _ h)
    · cases h
  | lst t cs =>
    simp only [stepE] at h
    split at h
    · exact se_lst (ok.es _ _ _ h)
    · cases h
  | lof t a =>
    simp only [stepE] at h
    split at h
    · simp only [Bool.and_eq_true, Bool.not_eq_true'] at h
      exact se_lof (isN_eq h.1.1.1) h.1.1.2 (ok.e _ _ _ h.2) h.1.2
    · cases h
  | newK =>
    simp only [stepE] at h
    split at h
    · exact se_newK
    · cases h
  | newT =>
    simp only [stepE] at h
    split at h
    · exact se_newT
    · cases h
  | cmph t elt tgc it ifs own =>
    simp only [stepE] at h
    split at h
    · simp only [Bool.and_eq_true, Bool.not_eq_true', List.all_eq_true, decide_eq_true_eq] at h
      obtain ⟨⟨⟨⟨⟨⟨h1, h2⟩, h3⟩, h4⟩, h5⟩, h6⟩, h7⟩ := h
      have e := se_cmph (t := t) (pos := by assumption) (ok.i _ _ _ _ h1) h2 (tgB_ok h3) (ok.fs _ _ _ h4) (ok.e _ _ _ h5) h6 (by rw [ownP_snd]; exact h7)
      rw [ownP_snd] at e
      exact e
    · cases h
  | cmph2 t elt tg it ifs tg1 it1 ifs1 own own1 => simp only [stepE] at h; cases h
theorem stepW_ok (ok : ChkOk T cf n r) (c : E) (e : Expr) (h : stepW r g c e = true) : SeW T cf g c e := by
  unfold stepW at h
  split at h
  · split at h
    · split at h
      · exact sw_and1 (ok.t _ _ _ h)
      · rw [Bool.and_eq_true] at h
        exact sw_and (ok.t _ _ _ h.1) (ok.w _ _ _ h.2)
      · cases h
    · cases h
  · split at h
    · split at h
      · exact sw_or1 (ok.t _ _ _ h)
      · rw [Bool.and_eq_true] at h
        exact sw_or (ok.t _ _ _ h.1) (ok.w _ _ _ h.2)
      · cases h
    · cases h
  · cases h
theorem stepT_ok (ok : ChkOk T cf n r) (c : E) (e : Expr) (h : stepT r g c e = true) : SeT T cf g c e := by
  unfold stepT at h
  split at h
  · exact (ok.w _ _ _ h).t
  · split at h
    · split at h
      · exact st_not (ok.t _ _ _ h)
      · cases h
    · split at h
      · split at h
        · simp only [Bool.and_eq_true, Bool.not_eq_true', decide_eq_true_eq] at h
          obtain ⟨⟨⟨rfl, h0⟩, h1⟩, h2⟩ := h
          exact st_cmp (ok.e _ _ _ h1) (ok.e _ _ _ h2) h0
        · cases h
      · split at h
        · simp only [Bool.and_eq_true, Bool.not_eq_true', decide_eq_true_eq] at h
          obtain ⟨⟨⟨⟨⟨rfl, rfl⟩, h0⟩, h1⟩, h2⟩, h3⟩ := h
          exact st_chn (ok.e _ _ _ h1) (ok.e _ _ _ h2) (ok.e _ _ _ h3) h0
        · cases h
      · split at h
        · simp only [Bool.and_eq_true, Bool.not_eq_true'] at h
          obtain ⟨⟨⟨h3, h0⟩, h1⟩, h2⟩ := h
          rw [inB_eq h3]
          exact st_in (ok.e _ _ _ h1) (ok.e _ _ _ h2) h0
        · cases h
      · cases h
    · rw [Bool.and_eq_true] at h
      exact st_val (ok.e _ _ _ h.2) h.1
theorem stepEs_ok (ok : ChkOk T cf n r) (c : List E) (e : List Expr) (h : stepEs r g c e = true) : SEs T cf g c e := by
  unfold stepEs at h
  split at h
  · exact ses_nil
  · simp only [Bool.and_eq_true, Bool.not_eq_true'] at h
    exact ses_cons (ok.e _ _ _ h.1.1) h.1.2 (ok.es _ _ _ h.2)
  · cases h
theorem stepO_ok (ok : ChkOk T cf n r) (c : Option E) (e : Option Expr) (h : stepO r g c e = true) : SeO T cf g c e := by
  unfold stepO at h
  split at h
  · exact so_none
  · exact so_some (ok.e _ _ _ h)
  · cases h
theorem stepFs_ok (ok : ChkOk T cf n r) (c : List E) (e : List Expr) (h : stepFs r g c e = true) : SIfs T cf g c e := by
  unfold stepFs at h
  split at h
  · exact sifs_nil
  · exact sifs_one (ok.t _ _ _ h)
  · cases h
theorem tupB_eq {e : Expr} (h : tupB e = true) : ∃ es k p, e = .Tuple es k p := by
  cases e <;> first | exact ⟨_, _, _, rfl⟩ | cases h
theorem stepI_ok (ok : ChkOk T cf n r) (c : It) (tg e : Expr) (h : stepI T r g c tg e = true) : SI T cf g c tg e := by
  cases c with
  | seq a => exact si_list (ok.e _ _ _ h)
  | rng1 a =>
    simp only [stepI] at h
    split at h
    · simp only [Bool.and_eq_true, Bool.not_eq_true'] at h
      exact si_rng1 (isN_eq h.1.1.1) h.1.1.2 (ok.e _ _ _ h.2) h.1.2
    · cases h
  | rng2 a b =>
    simp only [stepI] at h
    split at h
    · simp only [Bool.and_eq_true, Bool.not_eq_true'] at h
      obtain ⟨⟨⟨⟨⟨h1, h2⟩, h3⟩, h4⟩, h5⟩, h6⟩ := h
      exact si_rng2 (isN_eq h1) h2 (ok.e _ _ _ h5) (ok.e _ _ _ h6) h3 h4
    · cases h
  | zip a b =>
    simp only [stepI] at h
    split at h
    · simp only [Bool.and_eq_true, Bool.not_eq_true'] at h
      obtain ⟨⟨⟨⟨⟨⟨h1, h2⟩, h3⟩, h4⟩, h5⟩, h6⟩, h7⟩ := h
      obtain ⟨es, k, p, rfl⟩ := tupB_eq h7
      exact si_zip (isN_eq h1) h2 (ok.e _ _ _ h5) (ok.e _ _ _ h6) h3 h4
    · cases h
  | enum a =>
    simp only [stepI] at h
    split at h
    · simp only [Bool.and_eq_true, Bool.not_eq_true'] at h
      obtain ⟨⟨⟨⟨h1, h2⟩, h3⟩, h4⟩, h5⟩ := h
      obtain ⟨es, k, p, rfl⟩ := tupB_eq h5
      exact si_enum (isN_eq h1) h2 (ok.e _ _ _ h4) h3
    · cases h
end
end DI
end
section
set_option maxRecDepth 100000
set_option maxHeartbeats 2000000
/-! DI17: the same, of statements; of a whole law. -/
namespace DI
open PySem PySem.Spec PyProof.Rows L2
def valB (g : Gam) (ts : List Expr) (e : Expr) : Bool := match e with
  | .Tuple vs _ _ => decide (swN g ts vs = some none) && funB g
  | _ => true
section
variable (T : Tab) (r : Chk)
def stepS (g : Gam) (c : St) (st : Stmt) : Bool := match c with
  | .asg i a => match st with
    | .Assign [.Name x p] ea _ => (match ea with
      | .ListComp elt [⟨tg, iter, eifs, 0⟩] scope q => if swB g x p q scope then (match a with
          | .cmph _ el tgc it ifs own => decide (g.N[i]? = some x) && funB g && r.i g it tg iter && blkC g.N g.sc scope (ownP g own) && tgB (g.blk scope) tgc tg && r.fs (g.blk scope) ifs eifs && r.e (g.blk scope) el elt && !setB iter && (tgIs tgc).all (fun i => decide (i ∈ own))
          | _ => false) else decide (g.N[i]? = some x) && locB g x && r.e g a ea
      | ea => !compB ea && decide (g.N[i]? = some x) && locB g x && r.e g a ea)
    | _ => false
  | .asgT is a => match st with
    | .Assign [.Tuple es _ _] ea _ => namesB g is es && r.e g a ea && valB g es ea
    | _ => false
  | .asgS a b c => match st with
    | .Assign [.Subscript ea eb _] ec _ => r.e g a ea && r.e g b eb && r.e g c ec && !sliceB eb && !starB ea
    | _ => false
  | .putK a b c => match st with
    | .Assign [.Subscript ea eb _] ec _ => r.e g a ea && r.e g b eb && r.e g c ec
    | _ => false
  | .putT a b c => match st with
    | .Assign [.Subscript ea (.Tuple es _ _) _] ec _ => r.e g a ea && r.es g b es && r.e g c ec
    | _ => false
  | .par2 i j a b => match st with
    | .Assign [.Tuple [.Name x px, .Name y py] _ _] (.Tuple [ea, eb] _ _) _ => decide (g.N[i]? = some x) && decide (g.N[j]? = some y) && decide (i ≠ j) && plB g x && plB g y && funB g && r.e g a ea && r.e g b eb && !starB ea && !starB eb &&
        decide (swN g [.Name x px, .Name y py] [ea, eb] = some (some [x, y]))
    | _ => false
  | .par3 i j l a b c => match st with
    | .Assign [.Tuple [.Name x px, .Name y py, .Name z pz] _ _] (.Tuple [ea, eb, ec] _ _) _ => decide (g.N[i]? = some x) && decide (g.N[j]? = some y) && decide (g.N[l]? = some z) && decide (i ≠ j) && decide (i ≠ l) && decide (j ≠ l) &&
        plB g x && plB g y && plB g z && funB g && r.e g a ea && r.e g b eb && r.e g c ec && !starB ea && !starB eb && !starB ec && decide (swN g [.Name x px, .Name y py, .Name z pz] [ea, eb, ec] = some (some [x, y, z]))
    | _ => false
  | .aug i op a => match st with
    | .AugAssign (.Name x _) op' ea _ => decide (op = op') && decide (op = .Add ∨ op = .Sub) && decide (g.N[i]? = some x) && locB g x && r.e g a ea
    | _ => false
  | .ex a => match st with
    | .Expr ea _ => r.e g a ea && !compB ea
    | _ => false
  | .ret a => match st with
    | .Return (some ea) _ => r.e g a ea
    | _ => false
  | .retN => match st with
    | .Return none _ => true
    | _ => false
  | .iff c a b => match st with
    | .If ec sa sb _ => r.t g c ec && r.ss g a sa && r.ss g b sb
    | _ => false
  | .for tgc it body => match st with
    | .For tg iter sts [] _ => r.i g it tg iter && tgB g tgc tg && r.ss g body sts && !setB iter
    | _ => false
  | .whl c body => match st with
    | .While ec sts [] _ => r.t g c ec && r.ss g body sts
    | _ => false
  | .raise ci cs => match st with
    | .Raise (some (.Call (.Name x _) (ea :: es) [] _)) none _ => decide (T.clss.lookup x = some ci) && glB g.sc x && okN x && !starB ea && es.all (fun e => !starB e) && decide (cs.length < 100) && r.es g cs (ea :: es)
    | _ => false
  | .try1 body hs => match st with
    | .Try sts (h₀ :: hds) [] [] _ => r.ss g body sts && hdsB T g hs (h₀ :: hds)
    | _ => false
  | .pass => match st with
    | .Pass _ => true
    | _ => false
  | .brk => match st with
    | .Break _ => true
    | _ => false
  | .cnt => match st with
    | .Continue _ => true
    | _ => false
def stepSs (g : Gam) (cs : List St) (sts : List Stmt) : Bool := match cs, sts with
  | [], [] => true
  | c :: cs, st :: sts => r.s g c st && r.ss g cs sts
  | _, _ => false
def chk : Nat → Chk
  | 0 => ⟨fun _ _ _ => false, fun _ _ _ => false, fun _ _ _ => false, fun _ _ _ => false, fun _ _ _ => false, fun _ _ _ => false, fun _ _ _ _ => false, fun _ _ _ => false, fun _ _ _ => false⟩
  | f + 1 => ⟨stepE T (chk f), stepT (chk f), stepW (chk f), stepEs (chk f), stepO (chk f), stepFs (chk f), stepI T (chk f), stepS T (chk f), stepSs (chk f)⟩
end
section
variable {T : Tab} {cf : Nat → List D → Store → R D} {n : Nat} {r : Chk} {g : Gam}
theorem valB_ok {ts : List Expr} {e : Expr} {k : Nat} {p : Pos} (h : valB g ts e = true) : ∀ (G : Glb) (X : Cx) (W : WX), Good G T cf g X W → swappedStores [.Tuple ts k p] e X.env = pure none := fun G X W gd => by
  by_cases hT : ∃ vs k q, e = .Tuple vs k q
  · obtain ⟨vs, k2, q, rfl⟩ := hT
    simp only [valB, Bool.and_eq_true, decide_eq_true_eq] at h
    exact gd.stores h.2 h.1
  · exact stores_none (fun vs k q e => hT ⟨vs, k, q, e⟩) _ _
theorem swB_pl {x : Str} {p q : Pos} {scope : Scope} (h : swB g x p q scope = true) : plB g x = true ∧ (p.line == q.line) = true ∧ (scope.names.any fun (n, k) => n == x && (k == .local || k == .cell)) = false := by
  unfold swB at h
  simp only [Bool.and_eq_true] at h
  exact ⟨h.1.1, h.1.2, by simpa using h.2⟩
theorem stepS_ok (ok : ChkOk T cf n r) (c : St) (st : Stmt) (h : stepS T r g c st = true) : SS T cf n g c st := by
  cases c with
  | asg i a =>
    simp only [stepS] at h
    split at h
    · split at h
      · split at h
        · rename_i hsw
          obtain ⟨s1, s2, s3⟩ := swB_pl hsw
          split at h
          · simp only [Bool.and_eq_true, Bool.not_eq_true', List.all_eq_true, decide_eq_true_eq] at h
            obtain ⟨⟨⟨⟨⟨⟨⟨⟨h8, h9⟩, h1⟩, h2⟩, h3⟩, h4⟩, h5⟩, h6⟩, h7⟩ := h
            have e := fun t pos => ss_asgLc (n := n) (t := t) (pos := pos) h8 s1 h9 s2 s3 (ok.i _ _ _ _ h1) h2 (tgB_ok h3) (ok.fs _ _ _ h4) (ok.e _ _ _ h5) h6 (by rw [ownP_snd]; exact h7)
            rw [ownP_snd] at e
            exact e _ _
          · cases h
        · rename_i hsw
          simp only [Bool.and_eq_true, decide_eq_true_eq] at h
          exact ss_asgC h.1.1 h.1.2 (ok.e _ _ _ h.2) (by simpa using hsw)
      · simp only [Bool.and_eq_true, Bool.not_eq_true', decide_eq_true_eq] at h
        exact ss_asg h.1.1.2 h.1.2 (ok.e _ _ _ h.2) h.1.1.1
    · cases h
  | asgT is a =>
    simp only [stepS] at h
    split at h
    · simp only [Bool.and_eq_true] at h
      exact ss_asgT h.1.1 (ok.e _ _ _ h.1.2) (valB_ok h.2)
    · cases h
  | asgS a b c =>
    simp only [stepS] at h
    split at h
    · simp only [Bool.and_eq_true, Bool.not_eq_true'] at h
      obtain ⟨⟨⟨⟨h1, h2⟩, h3⟩, h5⟩, h6⟩ := h
      exact ss_asgS (ok.e _ _ _ h1) (ok.e _ _ _ h2) (ok.e _ _ _ h3) h5 h6
    · cases h
  | putK a b c =>
    simp only [stepS] at h
    split at h
    · simp only [Bool.and_eq_true, Bool.not_eq_true'] at h
      obtain ⟨⟨h1, h2⟩, h3⟩ := h
      exact ss_putK (ok.e _ _ _ h1) (ok.e _ _ _ h2) (ok.e _ _ _ h3)
    · cases h
  | putT a b c =>
    simp only [stepS] at h
    split at h
    · simp only [Bool.and_eq_true, Bool.not_eq_true'] at h
      obtain ⟨⟨h1, h2⟩, h3⟩ := h
      exact ss_putT (ok.e _ _ _ h1) (ok.es _ _ _ h2) (ok.e _ _ _ h3)
    · cases h
  | par2 i j a b =>
    simp only [stepS] at h
    split at h
    · simp only [Bool.and_eq_true, Bool.not_eq_true', decide_eq_true_eq] at h
      obtain ⟨⟨⟨⟨⟨⟨⟨⟨⟨⟨h1, h2⟩, h3⟩, h4⟩, h5⟩, h6⟩, h7⟩, h8⟩, h9⟩, h10⟩, h11⟩ := h
      exact ss_par2 h1 h2 h3 h4 h5 h6 (ok.e _ _ _ h7) (ok.e _ _ _ h8) h9 h10 h11
    · cases h
  | par3 i j l a b c =>
    simp only [stepS] at h
    split at h
    · simp only [Bool.and_eq_true, Bool.not_eq_true', decide_eq_true_eq] at h
      obtain ⟨⟨⟨⟨⟨⟨⟨⟨⟨⟨⟨⟨⟨⟨⟨⟨h1, h2⟩, h3⟩, h4⟩, h5⟩, h6⟩, h7⟩, h8⟩, h9⟩, h10⟩, h11⟩, h12⟩, h13⟩, h14⟩, h15⟩, h16⟩, h17⟩ := h
      exact ss_par3 h1 h2 h3 h4 h5 h6 h7 h8 h9 h10 (ok.e _ _ _ h11) (ok.e _ _ _ h12) (ok.e _ _ _ h13) h14 h15 h16 h17
    · cases h
  | aug i op a =>
    simp only [stepS] at h
    split at h
    · simp only [Bool.and_eq_true, decide_eq_true_eq] at h
      obtain ⟨⟨⟨⟨rfl, h2⟩, h3⟩, h4⟩, h5⟩ := h
      exact ss_aug h2 h3 h4 (ok.e _ _ _ h5)
    · cases h
  | ex a =>
    simp only [stepS] at h
    split at h
    · simp only [Bool.and_eq_true, Bool.not_eq_true'] at h
      exact ss_ex (ok.e _ _ _ h.1) h.2
    · cases h
  | ret a =>
    simp only [stepS] at h
    split at h
    · exact ss_ret (ok.e _ _ _ h)
    · cases h
  | retN =>
    simp only [stepS] at h
    split at h
    · exact ss_retN
    · cases h
  | iff c a b =>
    simp only [stepS] at h
    split at h
    · simp only [Bool.and_eq_true] at h
      exact ss_iff (ok.t _ _ _ h.1.1) (ok.ss _ _ _ h.1.2) (ok.ss _ _ _ h.2)
    · cases h
  | «for» tgc it body =>
    simp only [stepS] at h
    split at h
    · simp only [Bool.and_eq_true, Bool.not_eq_true'] at h
      exact ss_for (ok.i _ _ _ _ h.1.1.1) (tgB_ok h.1.1.2) (ok.ss _ _ _ h.1.2) h.2
    · cases h
  | whl c body =>
    simp only [stepS] at h
    split at h
    · simp only [Bool.and_eq_true] at h
      exact ss_whl (ok.t _ _ _ h.1) (ok.ss _ _ _ h.2)
    · cases h
  | raise ci cs =>
    simp only [stepS] at h
    split at h
    · simp only [Bool.and_eq_true, Bool.not_eq_true', decide_eq_true_eq] at h
      obtain ⟨⟨⟨⟨⟨⟨h1, h2⟩, h3⟩, h4⟩, h5⟩, h6⟩, h7⟩ := h
      exact ss_raise h1 h2 h3 h4 h5 h6 (ok.es _ _ _ h7)
    · cases h
  | try1 body hs =>
    simp only [stepS] at h
    split at h
    · rw [Bool.and_eq_true] at h
      exact ss_try (ok.ss _ _ _ h.1) h.2
    · cases h
  | pass =>
    simp only [stepS] at h
    split at h
    · exact ss_pass
    · cases h
  | brk =>
    simp only [stepS] at h
    split at h
    · exact ss_brk
    · cases h
  | cnt =>
    simp only [stepS] at h
    split at h
    · exact ss_cnt
    · cases h
theorem stepSs_ok (ok : ChkOk T cf n r) (c : List St) (e : List Stmt) (h : stepSs r g c e = true) : SSs T cf n g c e := by
  unfold stepSs at h
  split at h
  · exact sss_nil
  · rw [Bool.and_eq_true] at h
    exact sss_cons (ok.s _ _ _ h.1) (ok.ss _ _ _ h.2)
  · cases h
theorem chk_ok : ∀ f : Nat, ChkOk T cf n (chk T f)
  | 0 => ⟨fun _ _ _ h => (by cases h), fun _ _ _ h => (by cases h), fun _ _ _ h => (by cases h), fun _ _ _ h => (by cases h), fun _ _ _ h => (by cases h), fun _ _ _ h => (by cases h), fun _ _ _ _ h => (by cases h), fun _ _ _ h => (by cases h), fun _ _ _ h => (by cases h)⟩
  | f + 1 =>
    have ih := chk_ok f
    ⟨fun _ _ _ h => stepE_ok ih _ _ h, fun _ _ _ h => stepT_ok ih _ _ h, fun _ _ _ h => stepW_ok ih _ _ h, fun _ _ _ h => stepEs_ok ih _ _ h, fun _ _ _ h => stepO_ok ih _ _ h, fun _ _ _ h => stepFs_ok ih _ _ h, fun _ _ _ _ h => stepI_ok ih _ _ _ h,
      fun _ _ _ h => stepS_ok ih _ _ h, fun _ _ _ h => stepSs_ok ih _ _ h⟩
/-- a def's body is checked -/
def bodyB (T : Tab) (d : Df) (f : Fn) : Bool := (chk T 200).ss (gamOf d) f.body (defBody d.st) && C8.scC d.N d.ps (defScope d.st) && decide (f.ps = d.ps.length) && decide (f.ns = d.N.length)
theorem dfOk_by {G : Glb} {T : Tab} {d : Df} {f : Fn} {a : Addr} (fn : ∃ fd, Fun G.K d.x d.x d.st a fd ∧ Binds G.K fd d.ps []) (h : bodyB T d f = true) : DfOk G T d f a := by
  unfold bodyB at h
  simp only [Bool.and_eq_true, decide_eq_true_eq] at h
  exact ⟨fn, C8.fnScope_by h.1.1.2, h.1.2, h.2, fun cf n => (chk_ok 200).ss _ _ _ h.1.1.1⟩
end
end DI
end
section
set_option maxRecDepth 100000
set_option maxHeartbeats 2000000
/-! DI18: a law's end. -/
namespace DI
open PySem PySem.Spec PyProof.Rows L2
/-- a law's text: its defs, what they are in the small language, the module's ints, its own exception classes, the built-in names -/
structure LawD where
  defs : List Df
  fns : List Fn
  nums : List (Str × Int)
  clss : List Str
  bltn : List Str
def LawD.tab (L : LawD) : Tab := ⟨(L.defs.map (·.x)).zipIdx, L.nums.map fun p => (p.1, D.int p.2), L.clss.zipIdx, L.bltn⟩
def pairsOf (l : List Str) : List He.Fa := l.zipIdx.flatMap fun p => l.zipIdx.map fun q => He.Fa.exm p.1 q.1 (decide (p.2 = q.2))
def LawD.fa (L : LawD) : List He.Fa := L.defs.map (fun d => .glo d.x) ++ L.defs.map (fun d => .keep d.x) ++ L.bltn.map .free ++ L.nums.map (fun p => .int p.1 p.2) ++ L.clss.map .glo ++ L.clss.map .exc ++ pairsOf L.clss
def LawD.fn (L : LawD) : List He.FnD := L.defs.map fun d => ⟨(d.x, none), d.x, d.x, defArgs d.st, defBody d.st, defScope d.st⟩
section
variable {L : LawD} {K : PySem.W.Frag} {h : Heap} {mg : Str → Option Value} {P : Program} {w : World} {base : Heap}
theorem fact_mem {fa : List He.Fa} {fn : List He.FnD} (c : He.SaysE fa fn K) {f : He.Fa} (hf : f ∈ fa) : f.ok K = true := by
  obtain ⟨i, hi⟩ := List.getElem?_of_mem hf
  exact c.fact i hi
theorem lookup_idx {l : List Str} {x : Str} {i : Nat} (e : l.zipIdx.lookup x = some i) : l[i]? = some x := by
  have := PySem.mem_of_lookup e
  exact List.mem_zipIdx_iff_getElem?.mp this
def glbOf (L : LawD) (P : Program) (w : World) (K : PySem.W.Frag) (mg : Str → Option Value) (base : Heap) : Glb := ⟨P, w, K, mg, base, L.defs.map fun d => He.ga K d.x, L.clss.map fun x => He.ga K x, []⟩
theorem tab_ok (X : K.In h) (G : h.Ns mainGlobals mg) (c : He.SaysE L.fa L.fn K) : TabOk (glbOf L P w K mg base) L.tab where
  exc := fun i C e => by
    have e : (L.clss.map fun x => He.ga K x)[i]? = some C := e
    rw [List.getElem?_map] at e
    cases e1 : L.clss[i]? with
    | none => rw [e1] at e; cases e
    | some x =>
      rw [e1] at e
      cases e
      have := He.exc_ok (fact_mem c (f := .exc x) (by unfold LawD.fa; simp only [List.mem_append]; exact .inl (.inr (List.mem_map.mpr ⟨x, List.mem_of_getElem? e1, rfl⟩))))
      exact ⟨⟨_, _, _, _, F.excBase_ValueError, this.1⟩, this.2.1, this.2.2.1, this.2.2.2⟩
  exm := fun i j C C' e e' => by
    have e : (L.clss.map fun x => He.ga K x)[i]? = some C := e
    have e' : (L.clss.map fun x => He.ga K x)[j]? = some C' := e'
    rw [List.getElem?_map] at e e'
    cases e1 : L.clss[i]? with
    | none => rw [e1] at e; cases e
    | some x =>
      cases e2 : L.clss[j]? with
      | none => rw [e2] at e'; cases e'
      | some y =>
        rw [e1] at e
        rw [e2] at e'
        cases e
        cases e'
        refine He.exm_ok (fact_mem c (f := .exm x y (decide (i = j))) ?_)
        unfold LawD.fa
        simp only [List.mem_append]
        refine .inr ?_
        unfold pairsOf
        rw [List.mem_flatMap]
        exact ⟨(x, i), List.mem_zipIdx_iff_getElem?.mpr e1, List.mem_map.mpr ⟨(y, j), List.mem_zipIdx_iff_getElem?.mpr e2, rfl⟩⟩
  defs := fun x f e => by
    have e1 := lookup_idx e
    rw [List.getElem?_map] at e1
    cases e2 : L.defs[f]? with
    | none => rw [e2] at e1; cases e1
    | some d =>
      rw [e2] at e1
      cases e1
      refine ⟨He.ga K d.x, ?_, He.glo_ok X G (fact_mem c (f := .glo d.x) ?_)⟩
      · show (L.defs.map fun d => He.ga K d.x)[f]? = _
        rw [List.getElem?_map, e2]; rfl
      · unfold LawD.fa
        simp only [List.mem_append]
        exact .inl (.inl (.inl (.inl (.inl (.inl (List.mem_map.mpr ⟨d, List.mem_of_getElem? e2, rfl⟩))))))
  cons := fun x d e => by
    have hm := PySem.mem_of_lookup e
    have hm : (x, d) ∈ L.nums.map fun p => (p.1, D.int p.2) := hm
    obtain ⟨p, hp, e1⟩ := List.mem_map.mp hm
    cases e1
    obtain ⟨t, ht⟩ := He.int_ok X G (fact_mem c (f := .int p.1 p.2) (by unfold LawD.fa; simp only [List.mem_append]; exact .inl (.inl (.inl (.inr (List.mem_map.mpr ⟨p, hp, rfl⟩))))))
    exact ⟨.int p.2, _, ht, ⟨t, rfl⟩, fun pr ph H => .int _⟩
  clss := fun x i e => by
    have e1 := lookup_idx e
    refine ⟨He.ga K x, ?_, He.glo_ok X G (fact_mem c (f := .glo x) ?_)⟩
    · show (L.clss.map fun x => He.ga K x)[i]? = _
      rw [List.getElem?_map, e1]; rfl
    · unfold LawD.fa
      simp only [List.mem_append]
      exact .inl (.inl (.inr (List.mem_map.mpr ⟨x, List.mem_of_getElem? e1, rfl⟩)))
  bltn := fun x hx => He.free_ok X G (fact_mem c (f := .free x) (by
    unfold LawD.fa
    simp only [List.mem_append]
    exact .inl (.inl (.inl (.inl (.inr (List.mem_map.mpr ⟨x, hx, rfl⟩))))))) 
/-- how a def's arguments bind -/
def BindsOk (d : Df) : Prop := ∀ (kV doc pm : Value) (an : Option Addr) (cdv ct : Value) (us : List Value), us.length = d.ps.length →
  bindArgs (PySem.W.fnOf d.x d.x (defArgs d.st) (defBody d.st) (defScope d.st) .none kV doc pm an cdv ct) ⟨us, []⟩ = pure (d.ps.zip us)
structure LawOk (L : LawD) : Prop where
  len : L.defs.length = L.fns.length
  body : ∀ (i : Nat) (d : Df) (f : Fn), L.defs[i]? = some d → L.fns[i]? = some f → bodyB L.tab d f = true
  binds : ∀ d, d ∈ L.defs → BindsOk d
theorem fun_at (c : He.SaysE L.fa L.fn K) {i : Nat} {d : Df} (hd : L.defs[i]? = some d) : ∃ kV doc pm an cdv ct, Fun K d.x d.x d.st (He.ga K d.x) (PySem.W.fnOf d.x d.x (defArgs d.st) (defBody d.st) (defScope d.st) .none kV doc pm an cdv ct) := by
  obtain ⟨oc, od, osl, kV, doc, pm, an, cdv, ct, h1, h2⟩ := c.def_ i (d := ⟨(d.x, none), d.x, d.x, defArgs d.st, defBody d.st, defScope d.st⟩) (by unfold LawD.fn; rw [List.getElem?_map, hd]; rfl)
  have kp := He.keep_ok (fact_mem c (f := .keep d.x) (by unfold LawD.fa; simp only [List.mem_append]; exact .inl (.inl (.inl (.inl (.inl (.inr (List.mem_map.mpr ⟨d, List.mem_of_getElem? hd, rfl⟩))))))))
  exact ⟨kV, doc, pm, an, cdv, ct, ⟨⟨oc, od, kV, doc, pm, an, cdv, ct, osl, rfl, h1, h2⟩, kp⟩⟩
theorem dfs_ok (ok : LawOk L) (c : He.SaysE L.fa L.fn K) : ∀ (i : Nat) (a : Addr), (glbOf L P w K mg base).fa[i]? = some a → ∃ d f, L.defs[i]? = some d ∧ L.fns[i]? = some f ∧ DfOk (glbOf L P w K mg base) L.tab d f a := fun i a e => by
  have e : (L.defs.map fun d => He.ga K d.x)[i]? = some a := e
  rw [List.getElem?_map] at e
  cases e1 : L.defs[i]? with
  | none => rw [e1] at e; cases e
  | some d =>
    rw [e1] at e
    cases e
    have hlt := (List.getElem?_eq_some_iff.mp e1).1
    have hlt2 : i < L.fns.length := by rw [← ok.len]; exact hlt
    have e2 : L.fns[i]? = some L.fns[i] := List.getElem?_eq_getElem hlt2
    obtain ⟨kV, doc, pm, an, cdv, ct, F⟩ := fun_at c e1
    exact ⟨d, _, rfl, e2, dfOk_by ⟨_, F, .all (ok.binds d (List.mem_of_getElem? e1) kV doc pm an cdv ct)⟩ (ok.body i d _ e1 e2)⟩
/-- what the law's def promises -/
def spLaw (L : LawD) (P : Program) (w : World) (K : PySem.W.Frag) (mg : Str → Option Value) (base : Heap) (lv li : Nat) : Sp := fun vs H Q E => ∃ n, spI (glbOf L P w K mg base) (callF L.fns n lv) li vs H Q E
def spEnd (K : PySem.W.Frag) : Sp := fun vs H Q _ => ∃ (a : Addr) (ns : List Int), vs = [.ref a] ∧ SqL K H a (ns.map V.int) ∧ ns.length ≤ 63 ∧ ∀ H', Q (.bl true) H'
theorem rds_ints {fa pr ph : List Addr} {H : Hp} : ∀ ns : List Int, DI.RDs K fa pr ph H (ns.map .int) (ns.map V.int)
  | [] => .nil
  | n :: ns => .cons (.int n) (rds_ints ns)
theorem law_fn (ok : LawOk L) (X : K.In h) (G : h.Ns mainGlobals mg) (c : He.SaysE L.fa L.fn K) {li lv : Nat} {d : Df} (hd : L.defs[li]? = some d) (hps : d.ps = (["script"] : List Str))
    (plain : ∀ ns : List Int, ns.length ≤ 63 → ∃ n S, callF L.fns n lv li [.kl (ns.map .int)] [] = .ok (.bl true) S) :
    ∃ fd : FuncData, (∀ (s : Shared) (v : Value), BindsTo s fd ⟨[v], []⟩ [("script", v)]) ∧ ∀ base : Heap, K.In base → base.Ns mainGlobals mg → FnOk P w K mg base (L2.CX P w) lv (He.ga K d.x) fd ["script"] (spEnd K) := by
  obtain ⟨kV, doc, pm, an, cdv, ct, F⟩ := fun_at c hd
  refine ⟨PySem.W.fnOf d.x d.x (defArgs d.st) (defBody d.st) (defScope d.st) .none kV doc pm an cdv ct, fun s v => .of_eq ?_, fun base _ _ => ?_⟩
  · have := ok.binds d (List.mem_of_getElem? hd) kV doc pm an cdv ct [v] (by rw [hps]; rfl)
    rw [hps] at this
    exact this
  · have main := fun n => fns_ok (G := glbOf L P w K mg base) (P := L.fns) (ds := L.defs) n (tab_ok X G c) (dfs_ok ok c) lv li (He.ga K d.x) d (by
      show (L.defs.map fun d => He.ga K d.x)[li]? = _
      rw [List.getElem?_map, hd]; rfl) hd _ F
    rw [hps] at main
    have key : ∀ vs H Q E, spEnd K vs H Q E → ∃ n, spI (glbOf L P w K mg base) (callF L.fns n lv) li vs H Q E := fun vs H Q E ⟨a, ns, e, hS, hl, hq⟩ => by
      subst e
      obtain ⟨n, S, hc⟩ := plain ns hl
      refine ⟨n, [], [], [], [.kl (ns.map .int)], ⟨rfl, List.nodup_nil, fun k c a h1 => by simp at h1, fun a ha => by simp at ha⟩, .cons (.kl (vs := ns.map V.int) ?_ (rds_ints ns)) .nil, ?_⟩
      · rcases hS with hS | hS
        · exact .inl ⟨by simp, by simp, hS⟩
        · exact .inr hS
      · rw [hc]
        refine fun ph' H' b _ _ rb => ?_
        cases rb
        exact hq H'
    refine ⟨fun vs H Q E hsp => ?_, fun A outer s H args us vs Q E hr he hb hv hsp => ?_⟩
    · obtain ⟨a, ns, e, _⟩ := hsp
      rw [e]; rfl
    · obtain ⟨n, hn⟩ := key vs H Q E hsp
      exact (main n).run A outer s H args us vs Q E hr he hb hv hn
end

theorem no_cx {P : Program} {w : World} {H : Hp} {s s' : Shared} {e : Value} (h : L2.CX P w [] H s (fun _ _ _ => False) e s') : False := by
  obtain ⟨_, _, _, _, _, _, _, _, _, _, _, _, z⟩ := h
  exact z
/-- the law's head over our own texts -/
theorem law_end {l : PySem.W.OpenLaw} {L : LawD} {li lv : Nat} {q : Program} {loose : List Str} {xp : (Str → Option Value) → Heap → Prop} {yp : World → Heap → Prop} {dr : DefRec} {d : Df}
    (hn : l.most = some 63) (hdf : dr.params.defaults = []) (hr : Room lv callerA) (hy : ∀ w h, yp w h → ∃ K : PySem.W.Frag, K.In h ∧ He.SaysE L.fa L.fn K) (ok : LawOk L) (hd : L.defs[li]? = some d) (hx : dr.name = d.x) (hps : d.ps = (["script"] : List Str))
    (plain : ∀ ns : List Int, ns.length ≤ 63 → ∃ n S, callF L.fns n lv li [.kl (ns.map .int)] [] = .ok (.bl true) S) :
    PySem.W.WalkO q loose xp yp l.row.toRowW dr [] (fun f vs => PySem.call f vs) := by
  refine Att.attach_call hn hdf ?_
  intro w sa sb mg mb fad ob pmv cdv docv ad vs ns Gs Ys ho hd1 hcd hmg hobj hints hlen hg
  obtain ⟨K, KX, c⟩ := hy w _ Ys
  obtain ⟨fd, hb, hF⟩ := law_fn (P := l.prog) (w := w) ok KX Gs.T.g c hd hps plain
  have e1 : mg d.x = some (.ref (He.ga K d.x)) := He.glo_ok KX Gs.T.g (fact_mem c (f := .glo d.x) (by
    unfold LawD.fa
    simp only [List.mem_append]
    exact .inl (.inl (.inl (.inl (.inl (.inl (List.mem_map.mpr ⟨d, List.mem_of_getElem? hd, rfl⟩)))))))) 
  rw [hx] at hmg
  have e2 : fad = He.ga K d.x := by
    have := hmg.symm.trans e1
    cases this
    rfl
  subst e2
  exact law_call KX Gs.T.g Gs.T.b Gs.T.builtins Gs.T.nolimit hg hobj hints (Nat.le_trans hlen (by decide)) hr hF hb (fun H _ hS => ⟨ad, ns, rfl, hS, hlen, fun _ => rfl⟩) fun H e s' => no_cx
end DI
end
section
set_option maxRecDepth 100000
set_option maxHeartbeats 1000000
/-! DI19: reckoning with the evaluator, no program and no heap in sight. -/
namespace DI
open PySem

/-! ### what is wanted behind, plainly -/
def wpR {α : Type} (r : R α) (Q : α → Store → Prop) : Prop := match r with
  | .ok a S => Q a S
  | _ => False
/-- with exceptions -/
def wpX {α : Type} (r : R α) (Q : α → Store → Prop) (E : Nat → List (List Nat × D) → Store → Prop) : Prop := match r with
  | .ok a S => Q a S
  | .ex c pl S => E c pl S
  | .no => False
structure Kt where
  nx : Sl → Store → Prop := fun _ _ => False
  rt : D → Store → Prop := fun _ _ => False
  bk : Sl → Store → Prop := fun _ _ => False
  ct : Sl → Store → Prop := fun _ _ => False
  ex : Nat → List (List Nat × D) → Store → Prop := fun _ _ _ => False
def wpF (r : F) (k : Kt) : Prop := match r with
  | .nx s S => k.nx s S
  | .rt d S => k.rt d S
  | .bk s S => k.bk s S
  | .ct s S => k.ct s S
  | .ex c pl s S => k.ex c pl S
  | .no => False
section
variable {α β : Type} {r : R α} {Q Q' : α → Store → Prop} {k : Kt}
theorem wpR_ok {a : α} {S : Store} : wpR (.ok a S) Q ↔ Q a S := Iff.rfl
theorem wpR_iff : wpR r Q ↔ ∃ a S, r = .ok a S ∧ Q a S := by
  cases r with
  | ok a S => exact ⟨fun h => ⟨a, S, rfl, h⟩, fun ⟨_, _, e, h⟩ => by cases e; exact h⟩
  | ex c pl S => exact ⟨fun h => h.elim, fun ⟨_, _, e, _⟩ => by cases e⟩
  | no => exact ⟨fun h => h.elim, fun ⟨_, _, e, _⟩ => by cases e⟩
theorem wpR_imp (h : wpR r Q) (hq : ∀ a S, Q a S → Q' a S) : wpR r Q' := by
  cases r with
  | ok a S => exact hq _ _ h
  | _ => exact h.elim
theorem wpR_bind {f : α → Store → R β} {Q : β → Store → Prop} (h : wpR r fun a S => wpR (f a S) Q) : wpR (r.bind f) Q := by
  cases r with
  | ok a S => exact h
  | _ => exact h.elim
theorem wpR_eq {a : α} {S : Store} (e : r = .ok a S) (h : Q a S) : wpR r Q := by rw [e]; exact h
theorem wpR_opt {o : Option β} {b : β} {f : β → R α} (e : o = some b) (h : wpR (f b) Q) : wpR (opt o f) Q := by rw [e]; exact h
theorem wpF_bind {f : α → Store → F} {s : Sl} (h : wpR r fun a S => wpF (f a S) k) : wpF (bindF r s f) k := by
  cases r with
  | ok a S => exact h
  | _ => exact h.elim
theorem wpF_eq {α : Type} {r : R α} {a : α} {S : Store} {s : Sl} {f : α → Store → F} (e : r = .ok a S) (h : wpF (f a S) k) : wpF (bindF r s f) k := by rw [e]; exact h
end
section
variable {cf : Nat → List D → Store → R D} {n : Nat} {s : Sl} {S : Store} {k : Kt} {st : St} {sts : List St}
theorem wp_nil (h : k.nx s S) : wpF (execs cf n [] s S) k := by simp only [execs]; exact h
theorem wp_cons (h : wpF (exec cf n st s S) { k with nx := fun s S => wpF (execs cf n sts s S) k }) : wpF (execs cf n (st :: sts) s S) k := by
  simp only [execs]
  cases e : exec cf n st s S <;> rw [e] at h <;> exact h
theorem wp_one (h : wpF (exec cf n st s S) k) : wpF (execs cf n [st] s S) k := wp_cons (by
  cases e : exec cf n st s S with
  | nx s1 S1 =>
    rw [e] at h
    exact wp_nil (cf := cf) (n := n) (k := k) h
  | _ => rw [e] at h; exact h)
theorem wpF_imp {r : F} {k k' : Kt} (h : wpF r k) (h1 : ∀ s S, k.nx s S → k'.nx s S) (h2 : ∀ d S, k.rt d S → k'.rt d S) (h3 : ∀ s S, k.bk s S → k'.bk s S) (h4 : ∀ s S, k.ct s S → k'.ct s S) (h5 : ∀ c pl S, k.ex c pl S → k'.ex c pl S) : wpF r k' := by
  cases r with
  | nx s S => exact h1 _ _ h
  | rt d S => exact h2 _ _ h
  | bk s S => exact h3 _ _ h
  | ct s S => exact h4 _ _ h
  | ex c pl s S => exact h5 _ _ _ h
  | no => exact h.elim
end

/-! ### what is walked -/
def itemsS (S : Store) : Src → Option (List D)
  | .imm _ ds => some ds
  | .cell k => cellL S k
  | .rng lo n => some ((List.range n).map fun (i : Nat) => D.int (lo + i))
  | .zip a b => match itemsS S a, itemsS S b with
    | some x, some y => some (List.zipWith (fun p q => D.tup [p, q]) x y)
    | _, _ => none
  | .enum a => match itemsS S a with
    | some x => some (x.zipIdx.map fun p => D.tup [D.int (p.2 : Nat), p.1])
    | none => none
theorem itemsS_at {S : Store} : ∀ {src : Src} {ds : List D}, itemsS S src = some ds → (∀ i, src.at S i = some ds[i]?) ∧ src.len S = ds.length
  | .imm t ds, ds', h => by cases h; exact ⟨fun i => rfl, rfl⟩
  | .cell k, ds, h => by
    have h : cellL S k = some ds := h
    refine ⟨fun i => ?_, ?_⟩
    · show (cellL S k).map _ = _
      rw [h]; rfl
    · show ((cellL S k).map List.length).getD 0 = _
      rw [h]; rfl
  | .rng lo n, ds, h => by
    cases h
    refine ⟨fun i => ?_, by simp [Src.len]⟩
    show some (if i < n then some (D.int (lo + i)) else none) = _
    by_cases hi : i < n
    · simp [hi]
    · simp [hi]
  | .zip a b, ds, h => by
    unfold itemsS at h
    split at h
    · rename_i x y e1 e2
      cases h
      obtain ⟨a1, a2⟩ := itemsS_at e1
      obtain ⟨b1, b2⟩ := itemsS_at e2
      refine ⟨fun i => ?_, by simp [Src.len, a2, b2]⟩
      unfold Src.at
      rw [a1 i, b1 i]
      cases h1 : x[i]? with
      | none =>
        cases h2 : y[i]? <;> simp [h1, h2, List.getElem?_zipWith]
      | some p =>
        cases h2 : y[i]? <;> simp [h1, h2, List.getElem?_zipWith]
    · cases h
  | .enum a, ds, h => by
    unfold itemsS at h
    split at h
    · rename_i x e1
      cases h
      obtain ⟨a1, a2⟩ := itemsS_at e1
      refine ⟨fun i => ?_, by simp [Src.len, a2]⟩
      unfold Src.at
      rw [a1 i]
      cases h1 : x[i]? with
      | none => simp [h1]
      | some p => simp [h1]
    · cases h
/-- a source that no store changes -/
def Src.still : Src → Bool
  | .imm _ _ => true
  | .cell _ => false
  | .rng _ _ => true
  | .zip a b => a.still && b.still
  | .enum a => a.still
theorem still_items : ∀ {src : Src} (S S' : Store), src.still = true → itemsS S src = itemsS S' src
  | .imm t ds, S, S', _ => rfl
  | .cell k, S, S', h => by cases h
  | .rng lo n, S, S', _ => rfl
  | .zip a b, S, S', h => by
    simp only [Src.still, Bool.and_eq_true] at h
    unfold itemsS
    rw [still_items S S' h.1, still_items S S' h.2]
  | .enum a, S, S', h => by
    unfold itemsS
    rw [still_items (src := a) S S' h]

/-! ### loops -/
theorem forL_wp {src : Src} {ds : List D} {tg : Tg} {body : Sl → Store → F} {k : Kt} (I : Nat → Sl → Store → Prop)
    (hs : ∀ i s S, I i s S → itemsS S src = some ds)
    (step : ∀ i d s S, ds[i]? = some d → I i s S → ∃ s1, setTg tg d s = some s1 ∧ wpF (body s1 S) { nx := I (i + 1), ct := I (i + 1), bk := k.nx, rt := k.rt, ex := k.ex })
    (hend : ∀ s S, I ds.length s S → k.nx s S) : ∀ (m i : Nat) (s : Sl) (S : Store), I i s S → ds.length = i + m → wpF (forL src tg body m i s S) k
  | 0, i, s, S, h, e => by
    unfold forL
    rw [(itemsS_at (hs i s S h)).1 i, List.getElem?_eq_none (by omega)]
    exact hend s S (by rw [e]; exact h)
  | m + 1, i, s, S, h, e => by
    unfold forL
    have hi : i < ds.length := by omega
    rw [(itemsS_at (hs i s S h)).1 i, List.getElem?_eq_getElem hi]
    obtain ⟨s1, e1, w⟩ := step i _ s S (List.getElem?_eq_getElem hi) h
    simp only [e1]
    cases r : body s1 S with
    | nx s2 S2 =>
      rw [r] at w
      exact forL_wp I hs step hend m (i + 1) s2 S2 w (by omega)
    | ct s2 S2 =>
      rw [r] at w
      exact forL_wp I hs step hend m (i + 1) s2 S2 w (by omega)
    | bk s2 S2 => rw [r] at w; exact w
    | rt d S2 => rw [r] at w; exact w
    | ex c pl s2 S2 => rw [r] at w; exact w
    | no => rw [r] at w; exact w.elim
/-- for .. in ..: by an invariant of the turn -/
theorem wp_for {cf : Nat → List D → Store → R D} {n : Nat} {tg : Tg} {it : It} {body : List St} {s : Sl} {S S1 : Store} {k : Kt} {src : Src} {ds : List D} (I : Nat → Sl → Store → Prop) (hit : evalIt cf it s S = .ok src S1)
    (hs : ∀ i s S, I i s S → itemsS S src = some ds) (h0 : I 0 s S1)
    (step : ∀ i d s S, ds[i]? = some d → I i s S → ∃ s1, setTg tg d s = some s1 ∧ wpF (execs cf n body s1 S) { nx := I (i + 1), ct := I (i + 1), bk := k.nx, rt := k.rt, ex := k.ex })
    (hend : ∀ s S, I ds.length s S → k.nx s S) : wpF (exec cf n (.for tg it body) s S) k := by
  simp only [exec]
  refine wpF_eq hit ?_
  have hi := itemsS_at (hs 0 s S1 h0)
  exact forL_wp I hs step hend _ 0 s S1 h0 (by rw [hi.2]; omega)

/-! ### comprehensions -/
theorem putD_ok {acc : List D} {y : D} {S : Store} (h : acc.length < lim) : putD acc (.ok y S) = .ok (acc ++ [y]) S := if_pos h
theorem compG_pure {src : Src} {ds : List D} {tg : Tg} {ts : Sl → Store → R Bool} {elt : Sl → Store → R D} {s : Sl} {S : Store} {p : D → Bool} {g : D → D} (hs : itemsS S src = some ds) (hl : ds.length ≤ lim)
    (hb : ∀ d, d ∈ ds → ∃ s1, setTg tg d s = some s1 ∧ ts s1 S = .ok (p d) S ∧ (p d = true → elt s1 S = .ok (g d) S)) :
    ∀ (m i : Nat) (acc : List D), ds.length = i + m → acc.length ≤ i → compG src tg ts (fun s2 acc S2 => putD acc (elt s2 S2)) s m i acc S = .ok (acc ++ ((ds.drop i).filter p).map g) S
  | 0, i, acc, e, hacc => by
    unfold compG
    rw [(itemsS_at hs).1 i, List.getElem?_eq_none (by omega), List.drop_eq_nil_of_le (by omega)]
    simp
  | m + 1, i, acc, e, hacc => by
    unfold compG
    have hi : i < ds.length := by omega
    obtain ⟨s1, e1, e2, e3⟩ := hb ds[i] (List.getElem_mem hi)
    rw [(itemsS_at hs).1 i, List.getElem?_eq_getElem hi]
    simp only [e1, e2]
    have hd : List.drop i ds = ds[i] :: List.drop (i + 1) ds := List.drop_eq_getElem_cons hi
    rw [hd]
    cases hp : p ds[i] with
    | true =>
      show (match putD acc (elt s1 S) with
        | .ok acc2 S2 => compG src tg ts (fun s2 acc S2 => putD acc (elt s2 S2)) s m (i + 1) acc2 S2
        | _ => .no) = _
      rw [e3 hp, putD_ok (show acc.length < lim by omega)]
      show compG src tg ts (fun s2 acc S2 => putD acc (elt s2 S2)) s m (i + 1) (acc ++ [g ds[i]]) S = _
      rw [compG_pure hs hl hb m (i + 1) (acc ++ [g ds[i]]) (by omega) (by simp; omega)]
      rw [List.filter_cons_of_pos hp, List.map_cons, List.append_assoc]
      rfl
    | false =>
      show compG src tg ts (fun s2 acc S2 => putD acc (elt s2 S2)) s m (i + 1) acc S = _
      rw [compG_pure hs hl hb m (i + 1) acc (by omega) (by omega)]
      rw [List.filter_cons_of_neg (by rw [hp]; exact Bool.false_ne_true)]
theorem cmph_pure {cf : Nat → List D → Store → R D} {t : Bool} {elt : E} {tg : Tg} {it : It} {ifs : List E} {own : List Nat} {s : Sl} {S S0 : Store} {src : Src} {ds : List D} (p : D → Bool) (g : D → D)
    (hit : evalIt cf it s S0 = .ok src S) (hs : itemsS S src = some ds) (hl : ds.length ≤ lim)
    (hb : ∀ d, d ∈ ds → ∃ s1, setTg tg d (wipeD s own) = some s1 ∧ evalIfs cf ifs s1 S = .ok (p d) S ∧ (p d = true → evalE cf elt s1 S = .ok (g d) S)) :
    evalE cf (.cmph t elt tg it ifs own) s S0 = mk t ((ds.filter p).map g) S := by
  simp only [evalE, hit, R.bind_ok]
  rw [compG_pure hs hl hb _ 0 [] (by rw [(itemsS_at hs).2]; omega) (by simp)]
  simp
/-- no tests -/
theorem cmph_map {cf : Nat → List D → Store → R D} {t : Bool} {elt : E} {tg : Tg} {it : It} {own : List Nat} {s : Sl} {S S0 : Store} {src : Src} {ds : List D} (g : D → D)
    (hit : evalIt cf it s S0 = .ok src S) (hs : itemsS S src = some ds) (hl : ds.length ≤ lim)
    (hb : ∀ d, d ∈ ds → ∃ s1, setTg tg d (wipeD s own) = some s1 ∧ evalE cf elt s1 S = .ok (g d) S) :
    evalE cf (.cmph t elt tg it [] own) s S0 = mk t (ds.map g) S := by
  have := cmph_pure (t := t) (ifs := []) (fun _ => true) g hit hs hl fun d hd => by
    obtain ⟨s1, e1, e2⟩ := hb d hd
    exact ⟨s1, e1, by simp only [evalIfs], fun _ => e2⟩
  rw [List.filter_eq_self.mpr fun _ _ => rfl] at this
  exact this
theorem compG_wp {src : Src} {ds : List D} {tg : Tg} {ts : Sl → Store → R Bool} {elt : Sl → Store → R D} {s : Sl} (I : Nat → List D → Store → Prop) (hs : ∀ i acc S, I i acc S → itemsS S src = some ds) (hl : ds.length ≤ lim)
    (step : ∀ i d acc S, ds[i]? = some d → I i acc S → ∃ s1, setTg tg d s = some s1 ∧ wpR (ts s1 S) fun b S1 => if b = true then wpR (elt s1 S1) fun y S2 => I (i + 1) (acc ++ [y]) S2 else I (i + 1) acc S1) :
    ∀ (m i : Nat) (acc : List D) (S : Store), I i acc S → ds.length = i + m → acc.length ≤ i → wpR (compG src tg ts (fun s2 acc S2 => putD acc (elt s2 S2)) s m i acc S) fun acc S => I ds.length acc S ∧ acc.length ≤ ds.length
  | 0, i, acc, S, h, e, hacc => by
    unfold compG
    rw [(itemsS_at (hs i acc S h)).1 i, List.getElem?_eq_none (by omega)]
    exact ⟨by rw [e]; exact h, by omega⟩
  | m + 1, i, acc, S, h, e, hacc => by
    unfold compG
    have hi : i < ds.length := by omega
    obtain ⟨s1, e1, w⟩ := step i _ acc S (List.getElem?_eq_getElem hi) h
    rw [(itemsS_at (hs i acc S h)).1 i, List.getElem?_eq_getElem hi]
    simp only [e1]
    obtain ⟨b, S1, e2, w⟩ := wpR_iff.mp w
    simp only [e2]
    cases b with
    | true =>
      rw [if_pos rfl] at w
      obtain ⟨y, S2, e3, w⟩ := wpR_iff.mp w
      show wpR (match putD acc (elt s1 S1) with
        | .ok acc2 S2 => compG src tg ts (fun s2 acc S2 => putD acc (elt s2 S2)) s m (i + 1) acc2 S2
        | _ => .no) _
      rw [e3, putD_ok (show acc.length < lim by omega)]
      exact compG_wp I hs hl step m (i + 1) _ S2 w (by omega) (by simp; omega)
    | false =>
      rw [if_neg Bool.false_ne_true] at w
      exact compG_wp I hs hl step m (i + 1) _ S1 w (by omega) (by omega)
theorem cmph_wp {cf : Nat → List D → Store → R D} {elt : E} {tg : Tg} {it : It} {ifs : List E} {own : List Nat} {s : Sl} {S S0 : Store} {src : Src} {ds : List D} {Q : D → Store → Prop} (I : Nat → List D → Store → Prop)
    (hit : evalIt cf it s S0 = .ok src S) (hs : ∀ i acc S, I i acc S → itemsS S src = some ds) (hl : ds.length ≤ lim) (h0 : I 0 [] S)
    (step : ∀ i d acc S, ds[i]? = some d → I i acc S → ∃ s1, setTg tg d (wipeD s own) = some s1 ∧ wpR (evalIfs cf ifs s1 S) fun b S1 => if b = true then wpR (evalE cf elt s1 S1) fun y S2 => I (i + 1) (acc ++ [y]) S2 else I (i + 1) acc S1)
    (hq : ∀ acc S, I ds.length acc S → Q (.fl acc) S) : wpR (evalE cf (.cmph false elt tg it ifs own) s S0) Q := by
  simp only [evalE, hit, R.bind_ok]
  refine wpR_bind (wpR_imp (compG_wp I hs hl step _ 0 [] S h0 (by rw [(itemsS_at (hs 0 [] S h0)).2]; omega) (by simp)) fun acc S' ⟨h1, h2⟩ => ?_)
  unfold mk
  rw [if_pos (by omega)]
  exact hq acc S' h1

/-! ### calls -/
theorem call_at {P : List Fn} {n d i : Nat} {f : Fn} {vs : List D} {S : Store} (h : P[i]? = some f) (hl : vs.length = f.ps) :
    callF P n (d + 1) i vs S = fin S f.keep (execs (callF P n d) n f.body (vs.map some ++ List.replicate (f.ns - vs.length) none) S) := by
  rw [callF]
  simp only [h, hl, if_true]
theorem flat_same (S : Store) : okStore S S = true := by
  unfold okStore
  simp
theorem noRefs_mem {n : Nat} : ∀ {ds : List D}, noRefs n ds = true ↔ ∀ d, d ∈ ds → noRef n d = true
  | [] => by simp [noRefs]
  | d :: ds => by
    unfold noRefs
    rw [Bool.and_eq_true, noRefs_mem]
    simp
theorem okStore_app (S X : Store) : okStore S (S ++ X) = true := by
  unfold okStore
  rw [Bool.and_eq_true, decide_eq_true_eq, List.all_eq_true]
  refine ⟨by simp, fun k hk => ?_⟩
  have hk := List.mem_range.mp hk
  rw [List.getElem?_append_left hk]
  simp
/-- the store of a call: some cells changed (flat ones), new cells behind -/
theorem okStore_of {S S1 : Store} (h1 : S.length ≤ S1.length) (h2 : ∀ k, k < S.length → S1[k]? = S[k]? ∨ ∃ c, S1[k]? = some c ∧ flatC S.length c = true) : okStore S S1 = true := by
  unfold okStore
  rw [Bool.and_eq_true, decide_eq_true_eq, List.all_eq_true]
  refine ⟨h1, fun k hk => ?_⟩
  rw [Bool.or_eq_true, decide_eq_true_eq]
  rcases h2 k (List.mem_range.mp hk) with h | ⟨c, h, hc⟩
  · exact .inl h
  · rw [h]; exact .inr hc
theorem frz_self {n : Nat} {S : Store} {m : Nat} {d : D} (h : noRef n d = true) : frz n S m d = some d := by
  cases m <;> (unfold frz; rw [if_pos h])
/-- a call that changes nothing and hands back plain data -/
theorem cut_app {S X : Store} {d : D} (h : noRef S.length d = true) : cut S false d (S ++ X) = .ok d S := by
  unfold cut
  simp only [Bool.false_eq_true, if_false, okStore_app, if_true, frz_self h]
  simp
theorem cut_same {S : Store} {d : D} (h : noRef S.length d = true) : cut S false d S = .ok d S := by
  have := cut_app (X := []) h
  simpa using this
theorem cut_of {S S1 : Store} {d : D} (h : okStore S S1 = true) (hd : noRef S.length d = true) : cut S false d S1 = .ok d (S1.take S.length) := by
  unfold cut
  simp only [Bool.false_eq_true, if_false, h, if_true, frz_self hd]
/-- a def's call, by what its body does -/
theorem wp_call {P : List Fn} {n d i : Nat} {f : Fn} {vs : List D} {S : Store} {Q : D → Store → Prop} (h : P[i]? = some f) (hl : vs.length = f.ps)
    (hb : wpF (execs (callF P n d) n f.body (vs.map some ++ List.replicate (f.ns - vs.length) none) S) { nx := fun _ S1 => wpR (cut S f.keep .non S1) Q, rt := fun d S1 => wpR (cut S f.keep d S1) Q }) : wpR (callF P n (d + 1) i vs S) Q := by
  rw [call_at h hl]
  cases e : execs (callF P n d) n f.body (vs.map some ++ List.replicate (f.ns - vs.length) none) S with
  | nx s S1 => rw [e] at hb; exact hb
  | rt d S1 => rw [e] at hb; exact hb
  | bk s S1 => rw [e] at hb; exact hb.elim
  | ct s S1 => rw [e] at hb; exact hb.elim
  | ex c pl s S1 => rw [e] at hb; exact hb.elim
  | no => rw [e] at hb; exact hb.elim
/-- a value that is computed, told by an equation -/
theorem eq_of_wp {r : R D} {d : D} {S : Store} (h : wpR r fun a S' => a = d ∧ S' = S) : r = .ok d S := by
  obtain ⟨a, S', e, rfl, rfl⟩ := wpR_iff.mp h
  exact e
/-- a call of a def that only hands back: its value -/
theorem call_pure {P : List Fn} {n d i : Nat} {f : Fn} {vs : List D} {S : Store} {v : D} (h : P[i]? = some f) (hl : vs.length = f.ps) (hk : f.keep = false) (hv : noRef S.length v = true)
    (hb : wpF (execs (callF P n d) n f.body (vs.map some ++ List.replicate (f.ns - vs.length) none) S) { nx := fun _ S1 => v = .non ∧ ∃ X, S1 = S ++ X, rt := fun d S1 => d = v ∧ ∃ X, S1 = S ++ X }) : callF P n (d + 1) i vs S = .ok v S := by
  refine eq_of_wp (wp_call h hl (wpF_imp hb (fun s S1 ⟨e, X, eX⟩ => ?_) (fun d S1 ⟨e, X, eX⟩ => ?_) (fun _ _ z => z) (fun _ _ z => z) fun _ _ _ z => z))
  · subst e eX
    show wpR (cut S f.keep _ (S ++ X)) _
    rw [hk, cut_app hv]
    exact ⟨rfl, rfl⟩
  · subst e eX
    show wpR (cut S f.keep _ (S ++ X)) _
    rw [hk, cut_app hv]
    exact ⟨rfl, rfl⟩

/-! ### what expressions give -/
section
variable {cf : Nat → List D → Store → R D} {s : Sl} {S S1 S2 S3 : Store} {a b c : E} {es : List E} {x y z : D} {p q : Bool}
theorem ev_and1 (h : evalE cf a s S = .ok (.bl p) S1) : evalE cf (.and [a]) s S = .ok (.bl p) S1 := by simp only [evalE, evalAnd, h]
theorem ev_and (h : evalE cf a s S = .ok (.bl p) S) (h2 : p = true → evalE cf (.and (b :: es)) s S = .ok (.bl q) S) : evalE cf (.and (a :: b :: es)) s S = .ok (.bl (p && q)) S := by
  simp only [evalE, evalAnd, h, R.bind_ok] at h2 ⊢
  cases p with
  | true => simpa using h2 rfl
  | false => rfl
theorem ev_or1 (h : evalE cf a s S = .ok (.bl p) S1) : evalE cf (.or [a]) s S = .ok (.bl p) S1 := by simp only [evalE, evalOr, h]
theorem ev_or (h : evalE cf a s S = .ok (.bl p) S) (h2 : p = false → evalE cf (.or (b :: es)) s S = .ok (.bl q) S) : evalE cf (.or (a :: b :: es)) s S = .ok (.bl (p || q)) S := by
  simp only [evalE, evalOr, h, R.bind_ok] at h2 ⊢
  cases p with
  | false => simpa using h2 rfl
  | true => rfl
theorem ev_not (h : evalE cf a s S = .ok (.bl p) S1) : evalE cf (.not a) s S = .ok (.bl (!p)) S1 := by simp only [evalE, h, R.bind_ok]
theorem ev_ite {r : R D} (h : evalE cf c s S = .ok (.bl p) S1) (h1 : p = true → evalE cf a s S1 = r) (h2 : p = false → evalE cf b s S1 = r) : evalE cf (.ite c a b) s S = r := by
  simp only [evalE, h, R.bind_ok]
  cases p with
  | true => exact h1 rfl
  | false => exact h2 rfl
theorem ev_chn {op op' : PySem.CmpOp} (ha : evalE cf a s S = .ok x S) (hb : evalE cf b s S = .ok y S) (h1 : cmp op x y S = .ok (.bl p) S) (hc : p = true → evalE cf c s S = .ok z S) (h2 : p = true → cmp op' y z S = .ok (.bl q) S) : evalE cf (.chn op op' a b c) s S = .ok (.bl (p && q)) S := by
  simp only [evalE, ha, hb, h1, R.bind_ok]
  cases p with
  | true => simp only [hc rfl, h2 rfl, R.bind_ok, Bool.true_and]
  | false => rfl
theorem wp_iff {n : Nat} {k : Kt} {A B : List St} (h : evalE cf c s S = .ok (.bl p) S1) (h1 : p = true → wpF (execs cf n A s S1) k) (h2 : p = false → wpF (execs cf n B s S1) k) : wpF (exec cf n (.iff c A B) s S) k := by
  simp only [exec]
  refine wpF_eq h ?_
  cases p with
  | true => exact h1 rfl
  | false => exact h2 rfl
theorem wp_ret {n : Nat} {k : Kt} (h : evalE cf a s S = .ok x S1) (h1 : k.rt x S1) : wpF (execs cf n [.ret a] s S) k := by
  refine wp_cons ?_
  simp only [exec]
  exact wpF_eq h h1
theorem wp_asg {n i : Nat} {k : Kt} (h : evalE cf a s S = .ok x S1) (h1 : k.nx (s.set i (some x)) S1) : wpF (exec cf n (.asg i a) s S) k := by
  simp only [exec]
  exact wpF_eq h h1
variable {elt : E} {tg : Tg} {it : It} {ifs : List E} {own : List Nat} {src : Src} {ds : List D}
theorem ev_all (g : D → Bool) (hit : evalIt cf it s S = .ok src S1) (hs : itemsS S1 src = some ds) (hl : ds.length ≤ lim) (hb : ∀ d, d ∈ ds → ∃ s1, setTg tg d (wipeD s own) = some s1 ∧ evalE cf elt s1 S1 = .ok (.bl (g d)) S1) :
    evalE cf (.bi .all (.cmph false elt tg it [] own)) s S = .ok (.bl (ds.all g)) S1 := by
  have e := cmph_map (t := false) (fun d => .bl (g d)) hit hs hl hb
  unfold mk at e
  rw [if_pos (by simpa using hl)] at e
  simp only [Bool.false_eq_true, if_false] at e
  rw [evalE]
  rw [e]
  have e2 : bls? (ds.map fun d => D.bl (g d)) = some (ds.map g) := by
    have := bls?_map (ds.map g)
    rw [List.map_map] at this
    exact this
  simp only [R.bind_ok, bi, listOf, Option.bind_some, e2, opt_some]
  rw [List.all_map]
  rfl
theorem ev_any (g : D → Bool) (hit : evalIt cf it s S = .ok src S1) (hs : itemsS S1 src = some ds) (hl : ds.length ≤ lim) (hb : ∀ d, d ∈ ds → ∃ s1, setTg tg d (wipeD s own) = some s1 ∧ evalE cf elt s1 S1 = .ok (.bl (g d)) S1) :
    evalE cf (.bi .any (.cmph false elt tg it [] own)) s S = .ok (.bl (ds.any g)) S1 := by
  have e := cmph_map (t := false) (fun d => .bl (g d)) hit hs hl hb
  unfold mk at e
  rw [if_pos (by simpa using hl)] at e
  simp only [Bool.false_eq_true, if_false] at e
  rw [evalE]
  rw [e]
  have e2 : bls? (ds.map fun d => D.bl (g d)) = some (ds.map g) := by
    have := bls?_map (ds.map g)
    rw [List.map_map] at this
    exact this
  simp only [R.bind_ok, bi, listOf, Option.bind_some, e2, opt_some]
  rw [List.any_map]
  rfl
theorem ev_sum (g : D → Int) (hit : evalIt cf it s S = .ok src S1) (hs : itemsS S1 src = some ds) (hl : ds.length ≤ lim) (hb : ∀ d, d ∈ ds → ∃ s1, setTg tg d (wipeD s own) = some s1 ∧ evalE cf elt s1 S1 = .ok (.int (g d)) S1) :
    evalE cf (.bi .sum (.cmph false elt tg it [] own)) s S = .ok (.int (ds.map g).sum) S1 := by
  have e := cmph_map (t := false) (fun d => .int (g d)) hit hs hl hb
  unfold mk at e
  rw [if_pos (by simpa using hl)] at e
  simp only [Bool.false_eq_true, if_false] at e
  rw [evalE]
  rw [e]
  have e2 : ints? (ds.map fun d => D.int (g d)) = some (ds.map g) := by
    have := ints?_map (ds.map g)
    rw [List.map_map] at this
    exact this
  simp only [R.bind_ok, bi, itemsOf, Option.bind_some, e2, opt_some]
theorem ev_list (g : D → D) (hit : evalIt cf it s S = .ok src S1) (hs : itemsS S1 src = some ds) (hl : ds.length ≤ lim) (hb : ∀ d, d ∈ ds → ∃ s1, setTg tg d (wipeD s own) = some s1 ∧ evalE cf elt s1 S1 = .ok (g d) S1) :
    evalE cf (.cmph false elt tg it [] own) s S = .ok (.fl (ds.map g)) S1 := by
  have e := cmph_map (t := false) g hit hs hl hb
  unfold mk at e
  rw [if_pos (by simpa using hl)] at e
  simpa using e
theorem ev_filter (p : D → Bool) (g : D → D) (hit : evalIt cf it s S = .ok src S1) (hs : itemsS S1 src = some ds) (hl : ds.length ≤ lim)
    (hb : ∀ d, d ∈ ds → ∃ s1, setTg tg d (wipeD s own) = some s1 ∧ evalIfs cf ifs s1 S1 = .ok (p d) S1 ∧ (p d = true → evalE cf elt s1 S1 = .ok (g d) S1)) :
    evalE cf (.cmph false elt tg it ifs own) s S = .ok (.fl ((ds.filter p).map g)) S1 := by
  have e := cmph_pure (t := false) p g hit hs hl hb
  unfold mk at e
  rw [if_pos (by
    rw [List.length_map]
    exact Nat.le_trans (List.length_filter_le ..) hl)] at e
  simpa using e
theorem ev_tuple (h : evalE cf a s S = .ok (.fl ds) S1) : evalE cf (.bi .tuple a) s S = .ok (.tup ds) S1 := by
  rw [evalE]
  rw [h]
  simp only [R.bind_ok, bi, listOf, opt_some]
end
end DI
end
section
set_option maxRecDepth 100000
set_option maxHeartbeats 1000000
/-! DI20: values: equality, places, lengths. -/
namespace DI
/-! plain data -/
mutual
def pd : D → Bool
  | .tup ds => pds ds
  | .fl ds => pds ds
  | .str cs => cs.all (· < 1114112)
  | .lst _ => false | .dct _ => false | .fn _ => false | .kl _ => false
  | _ => true
def pds : List D → Bool
  | [] => true
  | d :: ds => pd d && pds ds
end
mutual
theorem pd_ref (n : Nat) : ∀ d : D, pd d = true → noRef n d = true
  | .non, _ => rfl
  | .bl _, _ => rfl
  | .int _, _ => rfl
  | .str _, _ => rfl
  | .tup ds, h => by unfold noRef; exact pds_ref n ds (by unfold pd at h; exact h)
  | .fl ds, h => by unfold noRef; exact pds_ref n ds (by unfold pd at h; exact h)
  | .lst _, h => by cases h
  | .dct _, h => by cases h
  | .fn _, h => by cases h
  | .kl _, h => by cases h
theorem pds_ref (n : Nat) : ∀ ds : List D, pds ds = true → noRefs n ds = true
  | [], _ => rfl
  | d :: ds, h => by
    unfold pds at h
    rw [Bool.and_eq_true] at h
    unfold noRefs
    rw [pd_ref n d h.1, pds_ref n ds h.2]
    rfl
end
theorem pds_mem {ds : List D} : pds ds = true ↔ ∀ d, d ∈ ds → pd d = true := by
  induction ds with
  | nil => simp [pds]
  | cons d ds ih => simp [pds, ih]
theorem pd_tup {ds : List D} : pd (.tup ds) = true ↔ ∀ d, d ∈ ds → pd d = true := by
  have e : pd (.tup ds) = pds ds := by simp only [pd]
  rw [e]; exact pds_mem
theorem pd_fl {ds : List D} : pd (.fl ds) = true ↔ ∀ d, d ∈ ds → pd d = true := by
  have e : pd (.fl ds) = pds ds := by simp only [pd]
  rw [e]; exact pds_mem
theorem pd_ints (l : List Int) : pd (.tup (l.map .int)) = true := pd_tup.mpr fun d hd => by
  obtain ⟨i, _, rfl⟩ := List.mem_map.mp hd
  rfl

/-! ### == -/
/-! == of plain data, told simply -/
mutual
def deq : D → D → Bool
  | .non, .non => true
  | .bl a, .bl b => a == b
  | .bl a, .int j => (if a then 1 else 0) == j
  | .int i, .bl b => i == (if b then 1 else 0)
  | .int i, .int j => i == j
  | .str x, .str y => x == y
  | .tup xs, .tup ys => deqs xs ys
  | .fl xs, .fl ys => deqs xs ys
  | _, _ => false
def deqs : List D → List D → Bool
  | [], [] => true
  | x :: xs, y :: ys => deq x y && deqs xs ys
  | _, _ => false
end
/-! how deep plain data is -/
mutual
def dep : D → Nat
  | .tup ds => deps ds + 1
  | .fl ds => deps ds + 1
  | _ => 0
def deps : List D → Nat
  | [] => 0
  | d :: ds => max (dep d) (deps ds)
end
mutual
theorem toPy_pd : ∀ d : D, pd d = true → ∃ p, toPy d = some p ∧ p.canLay0 = true ∧ p.depth = dep d
  | .non, _ => ⟨.none, rfl, rfl, rfl⟩
  | .bl b, _ => ⟨.bool b, rfl, rfl, rfl⟩
  | .int i, _ => ⟨.int i, rfl, rfl, rfl⟩
  | .str cs, h => ⟨.str ⟨cs.toArray⟩, rfl, by
    show PySem.PyData.strOk ⟨cs.toArray⟩ = true
    unfold PySem.PyData.strOk
    unfold pd at h
    simpa using h, rfl⟩
  | .tup ds, h => by
    obtain ⟨ps, h1, h2, h3⟩ := toPys_pd ds (by unfold pd at h; exact h)
    exact ⟨.tuple ps, by unfold toPy; rw [h1]; rfl, by unfold PySem.PyData.canLay0; exact h2, by unfold PySem.PyData.depth dep; rw [h3]⟩
  | .fl ds, h => by
    obtain ⟨ps, h1, h2, h3⟩ := toPys_pd ds (by unfold pd at h; exact h)
    exact ⟨.list ps, by unfold toPy; rw [h1]; rfl, by unfold PySem.PyData.canLay0; exact h2, by unfold PySem.PyData.depth dep; rw [h3]⟩
  | .lst _, h => by cases h
  | .dct _, h => by cases h
  | .fn _, h => by cases h
  | .kl _, h => by cases h
theorem toPys_pd : ∀ ds : List D, pds ds = true → ∃ ps, toPys ds = some ps ∧ PySem.PyData.canLayAll0 ps = true ∧ PySem.PyData.depthAll ps = deps ds
  | [], _ => ⟨[], rfl, rfl, rfl⟩
  | d :: ds, h => by
    unfold pds at h
    rw [Bool.and_eq_true] at h
    obtain ⟨p, h1, h2, h3⟩ := toPy_pd d h.1
    obtain ⟨ps, g1, g2, g3⟩ := toPys_pd ds h.2
    exact ⟨p :: ps, by unfold toPys; rw [h1, g1], by unfold PySem.PyData.canLayAll0; rw [h2, g2]; rfl, by unfold PySem.PyData.depthAll deps; rw [h3, g3]⟩
end
theorem str_deq (x y : List Nat) : ((⟨x.toArray⟩ : PySem.Str) == ⟨y.toArray⟩) = (x == y) := by
  rw [Bool.eq_iff_iff]
  simp
theorem toPys_some {ds : List D} {p : PySem.PyData} (h : (toPys ds).map PySem.PyData.tuple = some p) : ∃ ps, toPys ds = some ps ∧ p = .tuple ps := by
  cases e : toPys ds with
  | none => rw [e] at h; cases h
  | some ps => rw [e] at h; cases h; exact ⟨ps, rfl, rfl⟩
theorem toPys_somel {ds : List D} {p : PySem.PyData} (h : (toPys ds).map PySem.PyData.list = some p) : ∃ ps, toPys ds = some ps ∧ p = .list ps := by
  cases e : toPys ds with
  | none => rw [e] at h; cases h
  | some ps => rw [e] at h; cases h; exact ⟨ps, rfl, rfl⟩
theorem toPys_cons {d : D} {ds : List D} {p : List PySem.PyData} (h : toPys (d :: ds) = some p) : ∃ x xs, toPy d = some x ∧ toPys ds = some xs ∧ p = x :: xs := by
  simp only [toPys] at h
  split at h
  · rename_i x xs e1 e2
    cases h
    exact ⟨x, xs, e1, e2, rfl⟩
  · cases h
mutual
theorem eqv_deq : ∀ (a b : D) {p q : PySem.PyData}, toPy a = some p → toPy b = some q → pd a = true → pd b = true → PySem.PyData.eqv p q = deq a b
  | .tup xs, b, p, q, h1, h2, ha, hb => by
    obtain ⟨ps, e1, rfl⟩ := toPys_some (by simpa only [toPy] using h1)
    cases b with
    | tup ys =>
      obtain ⟨qs, e2, rfl⟩ := toPys_some (by simpa only [toPy] using h2)
      simp only [PySem.PyData.eqv, deq]
      exact eqvs_deqs xs ys e1 e2 (by simpa only [pd] using ha) (by simpa only [pd] using hb)
    | fl ys =>
      obtain ⟨qs, e2, rfl⟩ := toPys_somel (by simpa only [toPy] using h2)
      rfl
    | kl ys => cases hb
    | lst _ => cases hb
    | dct _ => cases hb
    | fn _ => cases hb
    | _ => cases h2; rfl
  | .fl xs, b, p, q, h1, h2, ha, hb => by
    obtain ⟨ps, e1, rfl⟩ := toPys_somel (by simpa only [toPy] using h1)
    cases b with
    | fl ys =>
      obtain ⟨qs, e2, rfl⟩ := toPys_somel (by simpa only [toPy] using h2)
      simp only [PySem.PyData.eqv, deq]
      exact eqvs_deqs xs ys e1 e2 (by simpa only [pd] using ha) (by simpa only [pd] using hb)
    | tup ys =>
      obtain ⟨qs, e2, rfl⟩ := toPys_some (by simpa only [toPy] using h2)
      rfl
    | kl ys => cases hb
    | lst _ => cases hb
    | dct _ => cases hb
    | fn _ => cases hb
    | _ => cases h2; rfl
  | .non, b, p, q, h1, h2, ha, hb => by
    cases h1
    cases b with
    | fl ys => obtain ⟨qs, e2, rfl⟩ := toPys_somel (by simpa only [toPy] using h2); rfl
    | tup ys => obtain ⟨qs, e2, rfl⟩ := toPys_some (by simpa only [toPy] using h2); rfl
    | kl ys => cases hb
    | lst _ => cases hb
    | dct _ => cases hb
    | fn _ => cases hb
    | _ => cases h2; rfl
  | .bl x, b, p, q, h1, h2, ha, hb => by
    cases h1
    cases b with
    | fl ys => obtain ⟨qs, e2, rfl⟩ := toPys_somel (by simpa only [toPy] using h2); rfl
    | tup ys => obtain ⟨qs, e2, rfl⟩ := toPys_some (by simpa only [toPy] using h2); rfl
    | kl ys => cases hb
    | lst _ => cases hb
    | dct _ => cases hb
    | fn _ => cases hb
    | _ => cases h2; rfl
  | .int x, b, p, q, h1, h2, ha, hb => by
    cases h1
    cases b with
    | fl ys => obtain ⟨qs, e2, rfl⟩ := toPys_somel (by simpa only [toPy] using h2); rfl
    | tup ys => obtain ⟨qs, e2, rfl⟩ := toPys_some (by simpa only [toPy] using h2); rfl
    | kl ys => cases hb
    | lst _ => cases hb
    | dct _ => cases hb
    | fn _ => cases hb
    | _ => cases h2; rfl
  | .str x, b, p, q, h1, h2, ha, hb => by
    cases h1
    cases b with
    | fl ys => obtain ⟨qs, e2, rfl⟩ := toPys_somel (by simpa only [toPy] using h2); rfl
    | tup ys => obtain ⟨qs, e2, rfl⟩ := toPys_some (by simpa only [toPy] using h2); rfl
    | kl ys => cases hb
    | lst _ => cases hb
    | dct _ => cases hb
    | fn _ => cases hb
    | str y => cases h2; exact str_deq x y
    | _ => cases h2; rfl
  | .kl _, _, _, _, _, _, ha, _ => by cases ha
  | .lst _, _, _, _, _, _, ha, _ => by cases ha
  | .dct _, _, _, _, _, _, ha, _ => by cases ha
  | .fn _, _, _, _, _, _, ha, _ => by cases ha
theorem eqvs_deqs : ∀ (a b : List D) {p q : List PySem.PyData}, toPys a = some p → toPys b = some q → pds a = true → pds b = true → PySem.PyData.eqvAll p q = deqs a b
  | [], [], _, _, h1, h2, _, _ => by cases h1; cases h2; rfl
  | [], y :: ys, _, _, h1, h2, _, _ => by
    cases h1
    obtain ⟨_, _, _, _, rfl⟩ := toPys_cons h2
    rfl
  | x :: xs, [], _, _, h1, h2, _, _ => by
    cases h2
    obtain ⟨_, _, _, _, rfl⟩ := toPys_cons h1
    rfl
  | x :: xs, y :: ys, _, _, h1, h2, ha, hb => by
    obtain ⟨p, ps, e1, e2, rfl⟩ := toPys_cons h1
    obtain ⟨q, qs, g1, g2, rfl⟩ := toPys_cons h2
    simp only [pds, Bool.and_eq_true] at ha hb
    simp only [PySem.PyData.eqvAll, deqs]
    rw [eqv_deq x y e1 g1 ha.1 hb.1, eqvs_deqs xs ys e2 g2 ha.2 hb.2]
end
theorem eqD_pd {a b : D} (ha : pd a = true) (hb : pd b = true) (h1 : dep a ≤ 64) (h2 : dep b ≤ 64) : eqD a b = some (deq a b) := by
  obtain ⟨p, e1, e2, e3⟩ := toPy_pd a ha
  obtain ⟨q, g1, g2, g3⟩ := toPy_pd b hb
  unfold eqD
  rw [e1, g1]
  have s1 : PySem.SeqAt.shaped p = true := by
    unfold PySem.SeqAt.shaped
    rw [e2, e3]; simpa using h1
  have s2 : PySem.SeqAt.shaped q = true := by
    unfold PySem.SeqAt.shaped
    rw [g2, g3]; simpa using h2
  simp only [s1, s2, Bool.and_self, if_true]
  rw [eqv_deq a b e1 g1 ha hb]
theorem cmp_eq {a b : D} {S : Store} (ha : pd a = true) (hb : pd b = true) (h1 : dep a ≤ 64) (h2 : dep b ≤ 64) : cmp .Eq a b S = .ok (.bl (deq a b)) S := by
  have e := eqD_pd ha hb h1 h2
  unfold cmp
  split <;> simp_all

/-! ### places, lengths, kinds -/
def isTyB (x : D) (t : Ty) : Bool := (isTy x t).getD false
section
variable {cf : Nat → List D → Store → R D} {s : Sl} {S S1 : Store} {a b c : E} {x y : D} {ds : List D}
theorem isTy_pd (hx : pd x = true) (t : Ty) : isTy x t = some (isTyB x t) := by
  cases x <;> cases t <;> first | rfl | cases hx
theorem liveD_pd (hx : pd x = true) : liveD S x = x := by
  cases x <;> first | rfl | cases hx
theorem ev_var {i : Nat} (h : s[i]? = some (some x)) : evalE cf (.var i) s S = .ok x S := by simp only [evalE, h]
theorem ev_isi {t : Ty} (h : evalE cf a s S = .ok x S1) (hx : pd x = true) : evalE cf (.isi a [t]) s S = .ok (.bl (isTyB x t)) S1 := by
  simp only [evalE, h, R.bind_ok, liveD_pd hx, isTys, isTy_pd hx]
  cases isTyB x t <;> rfl
theorem ev_isi2 {t u : Ty} (h : evalE cf a s S = .ok x S1) (hx : pd x = true) : evalE cf (.isi a [t, u]) s S = .ok (.bl (isTyB x t || isTyB x u)) S1 := by
  simp only [evalE, h, R.bind_ok, liveD_pd hx, isTys, isTy_pd hx]
  cases isTyB x t <;> cases isTyB x u <;> rfl
theorem ev_len (h : evalE cf a s S = .ok (.tup ds) S1) : evalE cf (.bi .len a) s S = .ok (.int ds.length) S1 := by
  simp only [evalE, h, R.bind_ok, bi, itemsOf, opt_some]
theorem ev_lenl (h : evalE cf a s S = .ok (.fl ds) S1) : evalE cf (.bi .len a) s S = .ok (.int ds.length) S1 := by
  simp only [evalE, h, R.bind_ok, bi, itemsOf, opt_some]
theorem ix_tup {k : Nat} (h : ds[k]? = some y) : ixD (.tup ds) (.int (k : Int)) S = .ok y S := by
  unfold ixD
  simp only [itemsOf, opt_some, L2.atI_nat h]
theorem ix_fl {k : Nat} (h : ds[k]? = some y) : ixD (.fl ds) (.int (k : Int)) S = .ok y S := by
  unfold ixD
  simp only [itemsOf, opt_some, L2.atI_nat h]
theorem ev_ix {k : Nat} (ha : evalE cf a s S = .ok (.tup ds) S) (hb : evalE cf b s S = .ok (.int (k : Int)) S) (h : ds[k]? = some y) : evalE cf (.ix a b) s S = .ok y S := by
  simp only [evalE, ha, hb, R.bind_ok, ix_tup h]
/-- a constant place -/
theorem ev_ixc {k : Nat} (ha : evalE cf a s S = .ok (.tup ds) S) (h : ds[k]? = some y) : evalE cf (.ix a (.con (.int (k : Int)))) s S = .ok y S := ev_ix ha (by simp only [evalE]) h
theorem ev_eq (ha : evalE cf a s S = .ok x S) (hb : evalE cf b s S = .ok y S) (p : pd x = true) (q : pd y = true) (h1 : dep x ≤ 64) (h2 : dep y ≤ 64) : evalE cf (.cmp .Eq a b) s S = .ok (.bl (deq x y)) S := by
  simp only [evalE, ha, hb, R.bind_ok, cmp_eq p q h1 h2]
theorem cmp_ne {a b : D} {S : Store} (ha : pd a = true) (hb : pd b = true) (h1 : dep a ≤ 64) (h2 : dep b ≤ 64) : cmp .NotEq a b S = .ok (.bl (!deq a b)) S := by
  have e := eqD_pd ha hb h1 h2
  unfold cmp
  split <;> simp_all
theorem ev_ne (ha : evalE cf a s S = .ok x S) (hb : evalE cf b s S = .ok y S) (p : pd x = true) (q : pd y = true) (h1 : dep x ≤ 64) (h2 : dep y ≤ 64) : evalE cf (.cmp .NotEq a b) s S = .ok (.bl (!deq x y)) S := by
  simp only [evalE, ha, hb, R.bind_ok, cmp_ne p q h1 h2]
theorem ev_eqi {i j : Int} (ha : evalE cf a s S = .ok (.int i) S) (hb : evalE cf b s S = .ok (.int j) S) : evalE cf (.cmp .Eq a b) s S = .ok (.bl (decide (i = j))) S := by
  have e := ev_eq ha hb rfl rfl (Nat.zero_le _) (Nat.zero_le _)
  have e2 : deq (.int i) (.int j) = decide (i = j) := by simp only [deq]; exact Bool.beq_eq_decide_eq i j
  rw [e2] at e
  exact e
theorem ev_nei {i j : Int} (ha : evalE cf a s S = .ok (.int i) S) (hb : evalE cf b s S = .ok (.int j) S) : evalE cf (.cmp .NotEq a b) s S = .ok (.bl (!decide (i = j))) S := by
  have e := ev_ne ha hb rfl rfl (Nat.zero_le _) (Nat.zero_le _)
  have e2 : deq (.int i) (.int j) = decide (i = j) := by simp only [deq]; exact Bool.beq_eq_decide_eq i j
  rw [e2] at e
  exact e
theorem it_seq (h : evalE cf a s S = .ok (.tup ds) S1) : evalIt cf (.seq a) s S = .ok (.imm true ds) S1 := by
  simp only [evalIt, h, R.bind_ok, srcOf, opt_some]
theorem it_seql (h : evalE cf a s S = .ok (.fl ds) S1) : evalIt cf (.seq a) s S = .ok (.imm false ds) S1 := by
  simp only [evalIt, h, R.bind_ok, srcOf, opt_some]
def rngI (j : Int) (S : Store) : R Src := if -(2 ^ 62) ≤ j ∧ j < 2 ^ 62 then .ok (.rng 0 j.toNat) S else .no
theorem rngI_ok {j : Int} (h1 : -(2 ^ 62) ≤ j) (h2 : j < 2 ^ 62) : rngI j S = .ok (.rng 0 j.toNat) S := by
  unfold rngI
  exact if_pos ⟨h1, h2⟩
theorem it_rngI {j : Int} (h : evalE cf a s S = .ok (.int j) S1)  : evalIt cf (.rng1 a) s S = rngI j S1 := by
  rw [evalIt, h]
  unfold rngI
  rfl
theorem rng_lo {k : Nat} : -(2 ^ 62 : Int) ≤ (k : Int) := Int.le_trans (by decide : -(2 ^ 62 : Int) ≤ 0) (Int.natCast_nonneg k)
theorem rng_hi {k : Nat} (hk : k ≤ 16777216) : (k : Int) < 2 ^ 62 := by
  have h1 : (k : Int) ≤ 16777216 := by omega
  exact Int.lt_of_le_of_lt h1 (by decide)
theorem it_rng {k : Nat} (h : evalE cf a s S = .ok (.int (k : Int)) S1) (hk : k ≤ 16777216) : evalIt cf (.rng1 a) s S = .ok (.rng 0 k) S1 := by
  rw [it_rngI h, rngI_ok rng_lo (rng_hi hk), Int.toNat_natCast]
def ints0 (k : Nat) : List D := (List.range k).map fun (i : Nat) => D.int (i : Int)
theorem it_rng_items {k : Nat} : itemsS S (.rng 0 k) = some (ints0 k) := by
  unfold itemsS ints0
  simp
theorem ints0_len {k : Nat} : (ints0 k).length = k := by simp [ints0]
theorem ints0_mem {k : Nat} {d : D} (h : d ∈ ints0 k) : ∃ i : Nat, i < k ∧ d = .int (i : Int) := by
  unfold ints0 at h
  obtain ⟨i, hi, rfl⟩ := List.mem_map.mp h
  exact ⟨i, List.mem_range.mp hi, rfl⟩
theorem ints0_get {k i : Nat} {d : D} (h : (ints0 k)[i]? = some d) : i < k ∧ d = .int (i : Int) := by
  unfold ints0 at h
  rw [List.getElem?_map] at h
  by_cases hi : i < k
  · simp [hi] at h
    exact ⟨hi, h.symm⟩
  · simp [hi] at h
theorem ints0_all {k : Nat} {g : D → Bool} : (ints0 k).all g = (List.range k).all fun i => g (.int (i : Int)) := by
  unfold ints0
  rw [List.all_map]
  rfl
theorem ev_con {x : D} : evalE cf (.con x) s S = .ok x S := by simp only [evalE]
theorem ev_call1 {f : Nat} {r : R D} (h : evalE cf a s S = .ok x S1) (hc : cf f [x] S1 = r) : evalE cf (.call f [a]) s S = r := by
  simp only [evalE, evalEs, h, R.bind_ok, hc]
theorem ev_call2 {f : Nat} {r : R D} (h : evalE cf a s S = .ok x S) (h2 : evalE cf b s S = .ok y S) (hc : cf f [x, y] S = r) : evalE cf (.call f [a, b]) s S = r := by
  simp only [evalE, evalEs, h, h2, R.bind_ok, hc]
theorem ev_call3 {f : Nat} {z : D} {r : R D} (h : evalE cf a s S = .ok x S) (h2 : evalE cf b s S = .ok y S) (h3 : evalE cf c s S = .ok z S) (hc : cf f [x, y, z] S = r) : evalE cf (.call f [a, b, c]) s S = r := by
  simp only [evalE, evalEs, h, h2, h3, R.bind_ok, hc]
theorem ev_call4 {f : Nat} {z u : D} {e : E} {r : R D} (h : evalE cf a s S = .ok x S) (h2 : evalE cf b s S = .ok y S) (h3 : evalE cf c s S = .ok z S) (h4 : evalE cf e s S = .ok u S) (hc : cf f [x, y, z, u] S = r) : evalE cf (.call f [a, b, c, e]) s S = r := by
  simp only [evalE, evalEs, h, h2, h3, h4, R.bind_ok, hc]
theorem cmp_le {i j : Int} : cmp .LtE (.int i) (.int j) S = .ok (.bl (decide (i ≤ j))) S := rfl
theorem cmp_lt {i j : Int} : cmp .Lt (.int i) (.int j) S = .ok (.bl (decide (i < j))) S := rfl
def natOf (x : D) : Nat := match x with
  | .int i => i.toNat
  | _ => 0
theorem natOf_int {k : Nat} : natOf (.int (k : Int)) = k := by simp [natOf]
theorem ints0_alln {k : Nat} {g : Nat → Bool} : (ints0 k).all (fun x => g (natOf x)) = (List.range k).all g := by
  rw [ints0_all]
  simp only [natOf_int]
theorem all_congr {α : Type} {l : List α} {p q : α → Bool} (h : ∀ x, x ∈ l → p x = q x) : l.all p = l.all q := by
  induction l with
  | nil => rfl
  | cons a l ih => rw [List.all_cons, List.all_cons, h a List.mem_cons_self, ih fun x hx => h x (List.mem_cons_of_mem _ hx)]
variable {elt : E} {tg : Tg} {it : It} {own : List Nat} {k : Nat}
theorem ev_all_rng (g : Nat → Bool) (hit : evalIt cf it s S = .ok (.rng 0 k) S1) (hl : k ≤ 16777216) (hb : ∀ i, i < k → ∃ s1, setTg tg (.int (i : Int)) (wipeD s own) = some s1 ∧ evalE cf elt s1 S1 = .ok (.bl (g i)) S1) :
    evalE cf (.bi .all (.cmph false elt tg it [] own)) s S = .ok (.bl ((List.range k).all g)) S1 := by
  have e := ev_all (fun x => g (natOf x)) hit it_rng_items (by rw [ints0_len]; exact hl) fun x hx => by
    obtain ⟨i, hi, rfl⟩ := ints0_mem hx
    rw [natOf_int]
    exact hb i hi
  have e2 : (ints0 k).all (fun x => g (natOf x)) = (List.range k).all g := ints0_alln
  rw [e2] at e
  exact e
theorem ev_any_rng (g : Nat → Bool) (hit : evalIt cf it s S = .ok (.rng 0 k) S1) (hl : k ≤ 16777216) (hb : ∀ i, i < k → ∃ s1, setTg tg (.int (i : Int)) (wipeD s own) = some s1 ∧ evalE cf elt s1 S1 = .ok (.bl (g i)) S1) :
    evalE cf (.bi .any (.cmph false elt tg it [] own)) s S = .ok (.bl ((List.range k).any g)) S1 := by
  have e := ev_any (fun x => g (natOf x)) hit it_rng_items (by rw [ints0_len]; exact hl) fun x hx => by
    obtain ⟨i, hi, rfl⟩ := ints0_mem hx
    rw [natOf_int]
    exact hb i hi
  have e2 : (ints0 k).any (fun x => g (natOf x)) = (List.range k).any g := by
    unfold ints0
    rw [List.any_map]
    have : (fun x => g (natOf x)) ∘ (fun (i : Nat) => D.int (i : Int)) = g := funext fun i => congrArg g natOf_int
    rw [this]
  rw [e2] at e
  exact e
theorem ev_sum_rng (g : Nat → Int) (hit : evalIt cf it s S = .ok (.rng 0 k) S1) (hl : k ≤ 16777216) (hb : ∀ i, i < k → ∃ s1, setTg tg (.int (i : Int)) (wipeD s own) = some s1 ∧ evalE cf elt s1 S1 = .ok (.int (g i)) S1) :
    evalE cf (.bi .sum (.cmph false elt tg it [] own)) s S = .ok (.int ((List.range k).map g).sum) S1 := by
  have e := ev_sum (fun x => g (natOf x)) hit it_rng_items (by rw [ints0_len]; exact hl) fun x hx => by
    obtain ⟨i, hi, rfl⟩ := ints0_mem hx
    rw [natOf_int]
    exact hb i hi
  have e2 : (ints0 k).map (fun x => g (natOf x)) = (List.range k).map g := by
    unfold ints0
    rw [List.map_map]
    apply List.map_congr_left
    intro i _
    exact congrArg g natOf_int
  rw [e2] at e
  exact e
theorem ev_list_rng (g : Nat → D) (hit : evalIt cf it s S = .ok (.rng 0 k) S1) (hl : k ≤ 16777216) (hb : ∀ i, i < k → ∃ s1, setTg tg (.int (i : Int)) (wipeD s own) = some s1 ∧ evalE cf elt s1 S1 = .ok (g i) S1) :
    evalE cf (.cmph false elt tg it [] own) s S = .ok (.fl ((List.range k).map g)) S1 := by
  have e := ev_list (fun x => g (natOf x)) hit it_rng_items (by rw [ints0_len]; exact hl) fun x hx => by
    obtain ⟨i, hi, rfl⟩ := ints0_mem hx
    rw [natOf_int]
    exact hb i hi
  have e2 : (ints0 k).map (fun x => g (natOf x)) = (List.range k).map g := by
    unfold ints0
    rw [List.map_map]
    apply List.map_congr_left
    intro i _
    exact congrArg g natOf_int
  rw [e2] at e
  exact e
end
end DI
end
section
set_option maxRecDepth 100000
set_option maxHeartbeats 1000000
/-! DJ1: what changes nothing, as an Option: the evaluator that simp can run. -/
namespace DI
open PySem

def toO (r : R D) : Option D := match r with
  | .ok v _ => some v
  | _ => none
@[simp] theorem toO_ok {v : D} {S : Store} : toO (.ok v S) = some v := rfl
/-- the value of a call that changes nothing -/
def pcR (S : Store) (r : R D) : Option D := match r with
  | .ok v S' => if S' = S then some v else none
  | _ => none
@[simp] theorem pcR_ok {v : D} {S : Store} : pcR S (.ok v S) = some v := if_pos rfl
theorem pcR_eq {v : D} {S : Store} {r : R D} (h : pcR S r = some v) : r = .ok v S := by
  unfold pcR at h
  split at h
  · split at h
    · rename_i e; cases h; rw [e]
    · cases h
  · cases h
def bcase (x : D) (A B : Option D) : Option D := match x with
  | .bl true => A
  | .bl false => B
  | _ => none
def negO : D → Option D
  | .int i => some (.int (-i))
  | _ => none
def notO : D → Option D
  | .bl b => some (.bl (!b))
  | _ => none
def intO : D → Option (Option Int)
  | .int i => some (some i)
  | _ => none
def isBlO : D → Option Bool
  | .bl b => some b
  | _ => none
def lenO (l : List D) (f : List D → D) : Option D := if l.length ≤ lim then some (f l) else none
def inO (ng : Bool) (x : D) (o : Option (List D)) : Option D := o.bind fun ds => if flatD x && ds.all flatD then some (.bl (if ng then !ds.any (eqF · x) else ds.any (eqF · x))) else none
def lsetO (o : Option (List D)) : Option D := (o.bind ints?).bind fun ns => if ns.length ≤ 4000 then some (.int (dedup [] ns).length) else none
/-- all of a list -/
def pmap {α β : Type} : List α → (α → Option β) → Option (List β)
  | [], _ => some []
  | a :: l, f => (f a).bind fun b => (pmap l f).bind fun bs => some (b :: bs)
/-- those of a list that a test takes -/
def pfm {α β : Type} : List α → (α → Option Bool) → (α → Option β) → Option (List β)
  | [], _, _ => some []
  | a :: l, p, f => (p a).bind fun t => if t = true then (f a).bind fun b => (pfm l p f).bind fun bs => some (b :: bs) else pfm l p f
def cutO (l : List D) : Option (List D) := if l.length ≤ lim then some l else none
def rng1O : D → Option (List D)
  | .int j => if -(2 ^ 62) ≤ j ∧ j < 2 ^ 62 then some (ints0 j.toNat) else none
  | _ => none
def rngs (lo : Int) (n : Nat) : List D := (List.range n).map fun (i : Nat) => D.int (lo + i)
def rng2O : D → D → Option (List D)
  | .int i, .int j => if -(2 ^ 62) ≤ i ∧ i < 2 ^ 62 ∧ -(2 ^ 62) ≤ j ∧ j < 2 ^ 62 then some (rngs i (j - i).toNat) else none
  | _, _ => none
/-- what is walked, of values that no store changes -/
def seqO (S : Store) (x : D) : Option (List D) := (srcOf S x).bind fun r => itemsS S r
def zipO (S : Store) (x y : D) : Option (List D) := (srcOf S x).bind fun r => (srcOf S y).bind fun q => if r.isT = q.isT then itemsS S (.zip r q) else none
def enumO (S : Store) (x : D) : Option (List D) := (srcOf S x).bind fun r => itemsS S (.enum r)
section
variable (cf : Nat → List D → Store → R D) (S : Store)
mutual
@[simp] def pv : E → Sl → Option D
  | .var i, s => (s[i]?).bind id
  | .con d, _ => some d
  | .bin op a b, s => (pv a s).bind fun x => (pv b s).bind fun y => toO (bin op x y S)
  | .neg a, s => (pv a s).bind negO
  | .not a, s => (pv a s).bind notO
  | .cmp op a b, s => (pv a s).bind fun x => (pv b s).bind fun y => toO (cmp op x y S)
  | .chn op op' a b c, s => (pv a s).bind fun x => (pv b s).bind fun y => (toO (cmp op x y S)).bind fun t => bcase t ((pv c s).bind fun z => toO (cmp op' y z S)) (some (.bl false))
  | .isIn ng a b, s => (pv a s).bind fun x => (pv b s).bind fun y => inO ng x (itemsOf S y)
  | .and es, s => pvAnd es s
  | .or es, s => pvOr es s
  | .ite c a b, s => (pv c s).bind fun x => bcase x (pv a s) (pv b s)
  | .call f es, s => (pvs es s).bind fun vs => pcR S (cf f vs S)
  | .cllv i es, s => match s[i]? with
    | some (some (.fn f)) => (pvs es s).bind fun vs => pcR S (cf f vs S)
    | _ => none
  | .bi b a, s => (pv a s).bind fun x => toO (bi b x S)
  | .lset a, s => (pv a s).bind fun x => lsetO (listOf S x)
  | .isi a ts, s => (pv a s).bind fun x => (isTys (liveD S x) ts).bind fun b => some (.bl b)
  | .me _ _ _, _ => none
  | .ix a i, s => (pv a s).bind fun x => (pv i s).bind fun y => toO (ixD x y S)
  | .sl a lo hi, s => (pv a s).bind fun x => (pvO lo s).bind fun l => (pvO hi s).bind fun h => toO (slD x l h S)
  | .rev a, s => (pv a s).bind fun x => toO (revD x S)
  | .tup es, s => (pvs es s).bind fun vs => lenO vs .tup
  | .lst t es, s => if t = true then none else (pvs es s).bind fun vs => lenO vs .fl
  | .lof t a, s => if t = true then none else (pv a s).bind fun x => (itemsOf S x).bind fun ds => lenO ds .fl
  | .newK, _ => none
  | .newT, _ => none
  | .inK ng a b, s => (pv a s).bind fun x => (pv b s).bind fun y => toO (inKD ng x y S)
  | .inT ng a b, s => (pvs a s).bind fun x => if x.length ≤ lim then (pv b s).bind fun y => toO (inTD ng x y S) else none
  | .getK a b, s => (pv a s).bind fun x => (pv b s).bind fun y => toO (getKD x y S)
  | .getT a b, s => (pv a s).bind fun x => (pvs b s).bind fun y => if y.length ≤ lim then toO (getTD x y S) else none
  | .cmph t elt tg it ifs own, s => if t = true then none else (pvIt it s).bind fun ds => (cutO ds).bind fun ds =>
      (pfm ds (fun d => (setTg tg d (wipeD s own)).bind fun s1 => pvIfs ifs s1) (fun d => (setTg tg d (wipeD s own)).bind fun s1 => pv elt s1)).bind fun r => some (.fl r)
  | .cmph2 .., _ => none
@[simp] def pvs : List E → Sl → Option (List D)
  | [], _ => some []
  | e :: es, s => (pv e s).bind fun x => (pvs es s).bind fun xs => some (x :: xs)
@[simp] def pvO : Option E → Sl → Option (Option Int)
  | none, _ => some none
  | some e, s => (pv e s).bind intO
@[simp] def pvAnd : List E → Sl → Option D
  | [], _ => none
  | [e], s => pv e s
  | e :: e2 :: es, s => (pv e s).bind fun x => bcase x (pvAnd (e2 :: es) s) (some (.bl false))
@[simp] def pvOr : List E → Sl → Option D
  | [], _ => none
  | [e], s => pv e s
  | e :: e2 :: es, s => (pv e s).bind fun x => bcase x (some (.bl true)) (pvOr (e2 :: es) s)
@[simp] def pvIfs : List E → Sl → Option Bool
  | [], _ => some true
  | [e], s => (pv e s).bind isBlO
  | _, _ => none
@[simp] def pvIt : It → Sl → Option (List D)
  | .seq a, s => (pv a s).bind fun x => seqO S x
  | .rng1 a, s => (pv a s).bind rng1O
  | .rng2 a b, s => (pv a s).bind fun x => (pv b s).bind fun y => rng2O x y
  | .zip a b, s => (pv a s).bind fun x => (pv b s).bind fun y => zipO S x y
  | .enum a, s => (pv a s).bind fun x => enumO S x
end
end

section
variable {cf : Nat → List D → Store → R D} {S : Store}
theorem bd {α β : Type} {o : Option α} {f : α → Option β} {b : β} (h : o.bind f = some b) : ∃ a, o = some a ∧ f a = some b := Option.bind_eq_some_iff.mp h
def keepsR {α : Type} (S : Store) (r : R α) : Prop := ∀ v S', r = .ok v S' → S' = S
theorem toO_eq {r : R D} {v : D} (hk : keepsR S r) (h : toO r = some v) : r = .ok v S := by
  cases r with
  | ok a S' => cases h; rw [hk _ _ rfl]
  | _ => cases h
theorem k_ok {α : Type} {a : α} : keepsR S (.ok a S) := fun _ _ e => by cases e; rfl
theorem k_no {α : Type} : keepsR S (.no : R α) := fun _ _ e => by cases e
theorem k_opt {α β : Type} {o : Option α} {f : α → R β} (h : ∀ a, keepsR S (f a)) : keepsR S (opt o f) := by
  cases o with
  | none => exact k_no
  | some a => exact h a
theorem k_ite {α : Type} {c : Prop} [Decidable c] {a b : R α} (h1 : keepsR S a) (h2 : keepsR S b) : keepsR S (if c then a else b) := by
  split
  · exact h1
  · exact h2
theorem k_bin {op : Operator} {x y : D} : keepsR S (bin op x y S) := by
  unfold bin
  split <;> (try unfold repT) <;> repeat (first | exact k_ok | exact k_no | (refine k_opt fun _ => ?_) | (refine k_ite ?_ ?_))
theorem k_cmp {op : CmpOp} {x y : D} : keepsR S (cmp op x y S) := by
  unfold cmp
  split <;> repeat (first | exact k_ok | exact k_no | (refine k_opt fun _ => ?_) | (refine k_ite ?_ ?_))
theorem k_bi {b : Bi} {x : D} : keepsR S (bi b x S) := by
  unfold bi
  split <;> repeat (first | exact k_ok | exact k_no | (refine k_opt fun _ => ?_) | (refine k_ite ?_ ?_))
theorem k_ix {x y : D} : keepsR S (ixD x y S) := by
  unfold ixD
  split <;> repeat (first | exact k_ok | exact k_no | (refine k_opt fun _ => ?_) | (refine k_ite ?_ ?_))
theorem k_sl {x : D} {l h : Option Int} : keepsR S (slD x l h S) := by
  unfold slD
  split <;> repeat (first | exact k_ok | exact k_no | (refine k_opt fun _ => ?_) | (refine k_ite ?_ ?_))
theorem k_rev {x : D} : keepsR S (revD x S) := by
  unfold revD
  split <;> repeat (first | exact k_ok | exact k_no | (refine k_opt fun _ => ?_) | (refine k_ite ?_ ?_))
theorem k_inK {ng : Bool} {x y : D} : keepsR S (inKD ng x y S) := by
  unfold inKD
  split <;> repeat (first | exact k_ok | exact k_no | (refine k_opt fun _ => ?_) | (refine k_ite ?_ ?_))
theorem k_inT {ng : Bool} {x : List D} {y : D} : keepsR S (inTD ng x y S) := by
  unfold inTD
  split <;> repeat (first | exact k_ok | exact k_no | (refine k_opt fun _ => ?_) | (refine k_ite ?_ ?_))
theorem k_getK {x y : D} : keepsR S (getKD x y S) := by
  unfold getKD
  split <;> repeat (first | exact k_ok | exact k_no | (refine k_opt fun _ => ?_) | (refine k_ite ?_ ?_))
theorem k_getT {x : D} {y : List D} : keepsR S (getTD x y S) := by
  unfold getTD
  split <;> repeat (first | exact k_ok | exact k_no | (refine k_opt fun _ => ?_) | (refine k_ite ?_ ?_))
theorem bcase_eq {x v : D} {A B : Option D} (h : bcase x A B = some v) : (x = .bl true ∧ A = some v) ∨ (x = .bl false ∧ B = some v) := by
  unfold bcase at h
  split at h
  · exact .inl ⟨rfl, h⟩
  · exact .inr ⟨rfl, h⟩
  · cases h
theorem compG_pfm {src : Src} {ds : List D} {tg : Tg} {ts : Sl → Store → R Bool} {elt : Sl → Store → R D} {s : Sl} {p : D → Option Bool} {f : D → Option D} (hs : itemsS S src = some ds) (hl : ds.length ≤ lim)
    (ht : ∀ d b, p d = some b → ∃ s1, setTg tg d s = some s1 ∧ ts s1 S = .ok b S) (hf : ∀ d y, f d = some y → ∃ s1, setTg tg d s = some s1 ∧ elt s1 S = .ok y S) :
    ∀ (m i : Nat) (acc r : List D), ds.length = i + m → acc.length ≤ i → pfm (ds.drop i) p f = some r → compG src tg ts (fun s2 acc S2 => putD acc (elt s2 S2)) s m i acc S = .ok (acc ++ r) S
  | 0, i, acc, r, e, hacc, h => by
    rw [List.drop_eq_nil_of_le (by omega)] at h
    cases h
    unfold compG
    rw [(itemsS_at hs).1 i, List.getElem?_eq_none (by omega)]
    simp
  | m + 1, i, acc, r, e, hacc, h => by
    have hi : i < ds.length := by omega
    rw [List.drop_eq_getElem_cons hi] at h
    unfold pfm at h
    obtain ⟨t, e1, h⟩ := bd h
    obtain ⟨s1, e2, e3⟩ := ht _ _ e1
    unfold compG
    rw [(itemsS_at hs).1 i, List.getElem?_eq_getElem hi]
    simp only [e2, e3]
    cases t with
    | true =>
      rw [if_pos rfl] at h
      obtain ⟨b, e4, h⟩ := bd h
      obtain ⟨bs, e5, h⟩ := bd h
      cases h
      obtain ⟨s1', e6, e7⟩ := hf _ _ e4
      have : s1' = s1 := by rw [e2] at e6; cases e6; rfl
      subst this
      show (match putD acc (elt s1' S) with
        | .ok acc2 S2 => compG src tg ts (fun s2 acc S2 => putD acc (elt s2 S2)) s m (i + 1) acc2 S2
        | _ => .no) = _
      rw [e7, putD_ok (show acc.length < lim by omega)]
      show compG src tg ts (fun s2 acc S2 => putD acc (elt s2 S2)) s m (i + 1) (acc ++ [b]) S = _
      rw [compG_pfm hs hl ht hf m (i + 1) (acc ++ [b]) bs (by omega) (by simp; omega) e5, List.append_assoc]
      rfl
    | false =>
      rw [if_neg Bool.false_ne_true] at h
      exact compG_pfm hs hl ht hf m (i + 1) acc r (by omega) (by omega) h
theorem pfm_len {α β : Type} {p : α → Option Bool} {f : α → Option β} : ∀ {l : List α} {r : List β}, pfm l p f = some r → r.length ≤ l.length
  | [], r, h => by cases h; exact Nat.le_refl _
  | a :: l, r, h => by
    unfold pfm at h
    obtain ⟨t, e1, h⟩ := bd h
    split at h
    · obtain ⟨b, e2, h⟩ := bd h
      obtain ⟨bs, e3, h⟩ := bd h
      cases h
      have := pfm_len e3
      simp; exact this
    · have := pfm_len h
      simp; omega
/-- what it walks, told by its items -/
def Walks (S : Store) (r : R Src) (ds : List D) : Prop := ∃ src, r = .ok src S ∧ itemsS S src = some ds
mutual
theorem pv_ok : ∀ (e : E) (s : Sl) {v : D}, pv cf S e s = some v → evalE cf e s S = .ok v S
  | .var i, s, v, h => by
    simp only [pv] at h
    obtain ⟨o, e1, h⟩ := bd h
    have h : o = some v := h
    subst h
    exact ev_var e1
  | .con d, s, v, h => by simp only [pv] at h; cases h; exact ev_con
  | .bin op a b, s, v, h => by
    simp only [pv] at h
    obtain ⟨x, e1, h⟩ := bd h
    obtain ⟨y, e2, h⟩ := bd h
    simp only [evalE, pv_ok a s e1, pv_ok b s e2, R.bind_ok]
    exact toO_eq k_bin h
  | .neg a, s, v, h => by
    simp only [pv] at h
    obtain ⟨x, e1, h⟩ := bd h
    simp only [evalE, pv_ok a s e1, R.bind_ok]
    cases x <;> first | (cases h; rfl) | cases h
  | .not a, s, v, h => by
    simp only [pv] at h
    obtain ⟨x, e1, h⟩ := bd h
    simp only [evalE, pv_ok a s e1, R.bind_ok]
    cases x <;> first | (cases h; rfl) | cases h
  | .cmp op a b, s, v, h => by
    simp only [pv] at h
    obtain ⟨x, e1, h⟩ := bd h
    obtain ⟨y, e2, h⟩ := bd h
    simp only [evalE, pv_ok a s e1, pv_ok b s e2, R.bind_ok]
    exact toO_eq k_cmp h
  | .chn op op' a b c, s, v, h => by
    simp only [pv] at h
    obtain ⟨x, e1, h⟩ := bd h
    obtain ⟨y, e2, h⟩ := bd h
    obtain ⟨t, e3, h⟩ := bd h
    simp only [evalE, pv_ok a s e1, pv_ok b s e2, R.bind_ok, toO_eq k_cmp e3]
    rcases bcase_eq h with ⟨rfl, h⟩ | ⟨rfl, h⟩
    · obtain ⟨z, e4, h⟩ := bd h
      simp only [pv_ok c s e4, R.bind_ok]
      exact toO_eq k_cmp h
    · cases h; rfl
  | .isIn ng a b, s, v, h => by
    simp only [pv] at h
    obtain ⟨x, e1, h⟩ := bd h
    obtain ⟨y, e2, h⟩ := bd h
    unfold inO at h
    obtain ⟨ds, e3, h⟩ := bd h
    simp only [evalE, pv_ok a s e1, pv_ok b s e2, R.bind_ok, e3, opt_some]
    split at h
    · rename_i hc; cases h; rw [if_pos hc]
    · cases h
  | .and es, s, v, h => by
    simp only [pv] at h
    simp only [evalE]
    exact pvAnd_ok es s h
  | .or es, s, v, h => by
    simp only [pv] at h
    simp only [evalE]
    exact pvOr_ok es s h
  | .ite c a b, s, v, h => by
    simp only [pv] at h
    obtain ⟨x, e1, h⟩ := bd h
    simp only [evalE, pv_ok c s e1, R.bind_ok]
    rcases bcase_eq h with ⟨rfl, h⟩ | ⟨rfl, h⟩
    · exact pv_ok a s h
    · exact pv_ok b s h
  | .call f es, s, v, h => by
    simp only [pv] at h
    obtain ⟨vs, e1, h⟩ := bd h
    simp only [evalE, pvs_ok es s e1, R.bind_ok]
    exact pcR_eq h
  | .cllv i es, s, v, h => by
    simp only [pv] at h
    split at h
    · rename_i f e0
      obtain ⟨vs, e1, h⟩ := bd h
      simp only [evalE, e0, pvs_ok es s e1, R.bind_ok]
      exact pcR_eq h
    · cases h
  | .bi b a, s, v, h => by
    simp only [pv] at h
    obtain ⟨x, e1, h⟩ := bd h
    simp only [evalE, pv_ok a s e1, R.bind_ok]
    exact toO_eq k_bi h
  | .lset a, s, v, h => by
    simp only [pv] at h
    obtain ⟨x, e1, h⟩ := bd h
    unfold lsetO at h
    obtain ⟨ns, e2, h⟩ := bd h
    simp only [evalE, pv_ok a s e1, R.bind_ok, e2, opt_some]
    split at h
    · rename_i hc; cases h; rw [if_pos hc]
    · cases h
  | .isi a ts, s, v, h => by
    simp only [pv] at h
    obtain ⟨x, e1, h⟩ := bd h
    obtain ⟨b, e2, h⟩ := bd h
    cases h
    simp only [evalE, pv_ok a s e1, R.bind_ok, e2, opt_some]
  | .me _ _ _, s, v, h => by simp only [pv] at h; cases h
  | .ix a i, s, v, h => by
    simp only [pv] at h
    obtain ⟨x, e1, h⟩ := bd h
    obtain ⟨y, e2, h⟩ := bd h
    simp only [evalE, pv_ok a s e1, pv_ok i s e2, R.bind_ok]
    exact toO_eq k_ix h
  | .sl a lo hi, s, v, h => by
    simp only [pv] at h
    obtain ⟨x, e1, h⟩ := bd h
    obtain ⟨y, e2, h⟩ := bd h
    obtain ⟨z, e3, h⟩ := bd h
    simp only [evalE, pv_ok a s e1, pvO_ok lo s e2, pvO_ok hi s e3, R.bind_ok]
    exact toO_eq k_sl h
  | .rev a, s, v, h => by
    simp only [pv] at h
    obtain ⟨x, e1, h⟩ := bd h
    simp only [evalE, pv_ok a s e1, R.bind_ok]
    exact toO_eq k_rev h
  | .tup es, s, v, h => by
    simp only [pv] at h
    obtain ⟨vs, e1, h⟩ := bd h
    simp only [evalE, pvs_ok es s e1, R.bind_ok, mkT]
    unfold lenO at h
    split at h
    · rename_i hc; cases h; rw [if_pos hc]
    · cases h
  | .lst t es, s, v, h => by
    simp only [pv] at h
    split at h
    · cases h
    · rename_i ht
      obtain ⟨vs, e1, h⟩ := bd h
      simp only [evalE, pvs_ok es s e1, R.bind_ok, mk]
      unfold lenO at h
      split at h
      · rename_i hc; cases h; rw [if_pos hc, if_neg ht]
      · cases h
  | .lof t a, s, v, h => by
    simp only [pv] at h
    split at h
    · cases h
    · rename_i ht
      obtain ⟨x, e1, h⟩ := bd h
      obtain ⟨ds, e2, h⟩ := bd h
      simp only [evalE, pv_ok a s e1, R.bind_ok, e2, opt_some, mk]
      unfold lenO at h
      split at h
      · rename_i hc; cases h; rw [if_pos hc, if_neg ht]
      · cases h
  | .newK, s, v, h => by simp only [pv] at h; cases h
  | .newT, s, v, h => by simp only [pv] at h; cases h
  | .inK ng a b, s, v, h => by
    simp only [pv] at h
    obtain ⟨x, e1, h⟩ := bd h
    obtain ⟨y, e2, h⟩ := bd h
    simp only [evalE, pv_ok a s e1, pv_ok b s e2, R.bind_ok]
    exact toO_eq k_inK h
  | .inT ng a b, s, v, h => by
    simp only [pv] at h
    obtain ⟨x, e1, h⟩ := bd h
    split at h
    · rename_i hc
      obtain ⟨y, e2, h⟩ := bd h
      simp only [evalE, pvs_ok a s e1, R.bind_ok]
      rw [if_pos hc]
      simp only [pv_ok b s e2, R.bind_ok]
      exact toO_eq k_inT h
    · cases h
  | .getK a b, s, v, h => by
    simp only [pv] at h
    obtain ⟨x, e1, h⟩ := bd h
    obtain ⟨y, e2, h⟩ := bd h
    simp only [evalE, pv_ok a s e1, pv_ok b s e2, R.bind_ok]
    exact toO_eq k_getK h
  | .getT a b, s, v, h => by
    simp only [pv] at h
    obtain ⟨x, e1, h⟩ := bd h
    obtain ⟨y, e2, h⟩ := bd h
    split at h
    · rename_i hc
      simp only [evalE, pv_ok a s e1, pvs_ok b s e2, R.bind_ok]
      rw [if_pos hc]
      exact toO_eq k_getT h
    · cases h
  | .cmph t elt tg it ifs own, s, v, h => by
    simp only [pv] at h
    split at h
    · cases h
    · rename_i ht
      obtain ⟨ds, e1, h⟩ := bd h
      obtain ⟨ds', e2, h⟩ := bd h
      unfold cutO at e2
      split at e2
      · rename_i hl
        cases e2
        obtain ⟨r, e3, h⟩ := bd h
        cases h
        obtain ⟨src, e4, e5⟩ := pvIt_ok it s e1
        simp only [evalE, e4, R.bind_ok]
        rw [compG_pfm (p := fun d => (setTg tg d (wipeD s own)).bind fun s1 => pvIfs cf S ifs s1) (f := fun d => (setTg tg d (wipeD s own)).bind fun s1 => pv cf S elt s1) e5 hl ?_ ?_ _ 0 [] r (by rw [(itemsS_at e5).2]; omega) (Nat.le_refl _) (by simpa using e3)]
        · simp only [R.bind_ok, List.nil_append, mk]
          have := pfm_len e3
          rw [if_pos (by omega), if_neg ht]
        · intro d b hb
          obtain ⟨s1, e6, hb⟩ := bd hb
          exact ⟨s1, e6, pvIfs_ok ifs s1 hb⟩
        · intro d y hy
          obtain ⟨s1, e6, hy⟩ := bd hy
          exact ⟨s1, e6, pv_ok elt s1 hy⟩
      · cases e2
  | .cmph2 .., s, v, h => by simp only [pv] at h; cases h
theorem pvs_ok : ∀ (es : List E) (s : Sl) {v : List D}, pvs cf S es s = some v → evalEs cf es s S = .ok v S
  | [], s, v, h => by simp only [pvs] at h; cases h; simp only [evalEs]
  | e :: es, s, v, h => by
    simp only [pvs] at h
    obtain ⟨x, e1, h⟩ := bd h
    obtain ⟨xs, e2, h⟩ := bd h
    cases h
    simp only [evalEs, pv_ok e s e1, pvs_ok es s e2, R.bind_ok]
theorem pvO_ok : ∀ (o : Option E) (s : Sl) {v : Option Int}, pvO cf S o s = some v → evalO cf o s S = .ok v S
  | none, s, v, h => by simp only [pvO] at h; cases h; simp only [evalO]
  | some e, s, v, h => by
    simp only [pvO] at h
    obtain ⟨x, e1, h⟩ := bd h
    simp only [evalO, pv_ok e s e1, R.bind_ok]
    cases x <;> first | (cases h; rfl) | cases h
theorem pvAnd_ok : ∀ (es : List E) (s : Sl) {v : D}, pvAnd cf S es s = some v → evalAnd cf es s S = .ok v S
  | [], s, v, h => by simp only [pvAnd] at h; cases h
  | [e], s, v, h => by
    simp only [pvAnd] at h
    simp only [evalAnd]
    exact pv_ok e s h
  | e :: e2 :: es, s, v, h => by
    simp only [pvAnd] at h
    obtain ⟨x, e1, h⟩ := bd h
    simp only [evalAnd, pv_ok e s e1, R.bind_ok]
    rcases bcase_eq h with ⟨rfl, h⟩ | ⟨rfl, h⟩
    · exact pvAnd_ok (e2 :: es) s h
    · cases h; rfl
theorem pvOr_ok : ∀ (es : List E) (s : Sl) {v : D}, pvOr cf S es s = some v → evalOr cf es s S = .ok v S
  | [], s, v, h => by simp only [pvOr] at h; cases h
  | [e], s, v, h => by
    simp only [pvOr] at h
    simp only [evalOr]
    exact pv_ok e s h
  | e :: e2 :: es, s, v, h => by
    simp only [pvOr] at h
    obtain ⟨x, e1, h⟩ := bd h
    simp only [evalOr, pv_ok e s e1, R.bind_ok]
    rcases bcase_eq h with ⟨rfl, h⟩ | ⟨rfl, h⟩
    · cases h; rfl
    · exact pvOr_ok (e2 :: es) s h
theorem pvIfs_ok : ∀ (es : List E) (s : Sl) {v : Bool}, pvIfs cf S es s = some v → evalIfs cf es s S = .ok v S
  | [], s, v, h => by simp only [pvIfs] at h; cases h; simp only [evalIfs]
  | [e], s, v, h => by
    simp only [pvIfs] at h
    obtain ⟨x, e1, h⟩ := bd h
    simp only [evalIfs, pv_ok e s e1, R.bind_ok]
    cases x <;> first | (cases h; rfl) | cases h
  | _ :: _ :: _, s, v, h => by simp only [pvIfs] at h; cases h
theorem pvIt_ok : ∀ (it : It) (s : Sl) {ds : List D}, pvIt cf S it s = some ds → Walks S (evalIt cf it s S) ds
  | .seq a, s, ds, h => by
    simp only [pvIt] at h
    obtain ⟨x, e1, h⟩ := bd h
    obtain ⟨r, e2, h⟩ := bd h
    refine ⟨r, ?_, h⟩
    simp only [evalIt, pv_ok a s e1, R.bind_ok, e2, opt_some]
  | .rng1 a, s, ds, h => by
    simp only [pvIt] at h
    obtain ⟨x, e1, h⟩ := bd h
    cases x with
    | int j =>
      have h : (if -(2 ^ 62) ≤ j ∧ j < 2 ^ 62 then some (ints0 j.toNat) else none) = some ds := h
      split at h
      · rename_i hc
        cases h
        refine ⟨.rng 0 j.toNat, ?_, it_rng_items⟩
        rw [it_rngI (pv_ok a s e1), rngI_ok hc.1 hc.2]
      · cases h
    | _ => cases h
  | .rng2 a b, s, ds, h => by
    simp only [pvIt] at h
    obtain ⟨x, e1, h⟩ := bd h
    obtain ⟨y, e2, h⟩ := bd h
    cases x with
    | int i =>
      cases y with
      | int j =>
        have h : (if -(2 ^ 62) ≤ i ∧ i < 2 ^ 62 ∧ -(2 ^ 62) ≤ j ∧ j < 2 ^ 62 then some (rngs i (j - i).toNat) else none) = some ds := h
        split at h
        · rename_i hc
          cases h
          refine ⟨.rng i (j - i).toNat, ?_, rfl⟩
          simp only [evalIt, pv_ok a s e1, pv_ok b s e2, R.bind_ok]
          exact if_pos hc
        · cases h
      | _ => cases h
    | _ => cases h
  | .zip a b, s, ds, h => by
    simp only [pvIt] at h
    obtain ⟨x, e1, h⟩ := bd h
    obtain ⟨y, e2, h⟩ := bd h
    obtain ⟨r, e3, h⟩ := bd h
    obtain ⟨q, e4, h⟩ := bd h
    split at h
    · rename_i hc
      refine ⟨.zip r q, ?_, h⟩
      simp only [evalIt, pv_ok a s e1, pv_ok b s e2, R.bind_ok, e3, e4, opt_some]
      rw [if_pos hc]
    · cases h
  | .enum a, s, ds, h => by
    simp only [pvIt] at h
    obtain ⟨x, e1, h⟩ := bd h
    obtain ⟨r, e2, h⟩ := bd h
    refine ⟨.enum r, ?_, h⟩
    simp only [evalIt, pv_ok a s e1, R.bind_ok, e2, opt_some]
end
end
end DI
end
section
set_option maxRecDepth 100000
set_option maxHeartbeats 1000000
/-! DJ2: the rules that simp runs the pure evaluator by. -/
namespace DI
open PySem
section
variable {S : Store} {α β : Type}
theorem obind_congr {o o' : Option α} {f : α → Option β} (h : o = o') : o.bind f = o'.bind f := by rw [h]
theorem bcase_congr {x x' : D} {A B : Option D} (h : x = x') : bcase x A B = bcase x' A B := by rw [h]
theorem ite_some {P : Prop} [Decidable P] {a b : α} : (if P then some a else some b) = some (if P then a else b) := by split <;> rfl
@[simp] theorem bcase_bl {p : Bool} {A B : Option D} : bcase (.bl p) A B = if p = true then A else B := by cases p <;> rfl
@[simp] theorem ite_and {P : Prop} [Decidable P] {q : Bool} : (if P then some (D.bl q) else some (D.bl false)) = some (.bl (decide P && q)) := by by_cases h : P <;> simp [h]
@[simp] theorem ite_or {P : Prop} [Decidable P] {q : Bool} : (if P then some (D.bl true) else some (D.bl q)) = some (.bl (decide P || q)) := by by_cases h : P <;> simp [h]
@[simp] theorem negO_int {i : Int} : negO (.int i) = some (.int (-i)) := rfl
@[simp] theorem notO_bl {p : Bool} : notO (.bl p) = some (.bl (!p)) := rfl
@[simp] theorem intO_int {i : Int} : intO (.int i) = some (some i) := rfl
@[simp] theorem isBlO_bl {p : Bool} : isBlO (.bl p) = some p := rfl
@[simp] theorem lenO_ok {l : List D} {f : List D → D} (h : l.length ≤ 16777216) : lenO l f = some (f l) := if_pos h
@[simp] theorem cutO_ok {l : List D} (h : l.length ≤ 16777216) : cutO l = some l := if_pos h
/-! numbers -/
@[simp] theorem bin_add {i j : Int} : bin .Add (.int i) (.int j) S = .ok (.int (i + j)) S := rfl
@[simp] theorem bin_sub {i j : Int} : bin .Sub (.int i) (.int j) S = .ok (.int (i - j)) S := rfl
@[simp] theorem bin_mult {i j : Int} (h : mulOk i j = true) : bin .Mult (.int i) (.int j) S = .ok (.int (i * j)) S := by
  show (if mulOk i j = true then _ else _) = _
  rw [if_pos h]
@[simp] theorem bin_fdiv {i j : Int} (h : divOk j = true) : bin .FloorDiv (.int i) (.int j) S = .ok (.int (i.fdiv j)) S := by
  show (if divOk j = true then _ else _) = _
  rw [if_pos h]
@[simp] theorem bin_mod {i j : Int} (h : j ≠ 0) : bin .Mod (.int i) (.int j) S = .ok (.int (i.fmod j)) S := by
  show (if j ≠ 0 then _ else _) = _
  rw [if_pos h]
@[simp] theorem cmp_lt' {i j : Int} : cmp .Lt (.int i) (.int j) S = .ok (.bl (decide (i < j))) S := rfl
@[simp] theorem cmp_le' {i j : Int} : cmp .LtE (.int i) (.int j) S = .ok (.bl (decide (i ≤ j))) S := rfl
@[simp] theorem cmp_gt' {i j : Int} : cmp .Gt (.int i) (.int j) S = .ok (.bl (decide (j < i))) S := rfl
@[simp] theorem cmp_ge' {i j : Int} : cmp .GtE (.int i) (.int j) S = .ok (.bl (decide (j ≤ i))) S := rfl
@[simp] theorem cmp_eqi {i j : Int} : cmp .Eq (.int i) (.int j) S = .ok (.bl (decide (i = j))) S := by
  rw [cmp_eq rfl rfl (Nat.zero_le _) (Nat.zero_le _)]
  simp only [deq, Bool.beq_eq_decide_eq]
@[simp] theorem cmp_nei {i j : Int} : cmp .NotEq (.int i) (.int j) S = .ok (.bl (!decide (i = j))) S := by
  rw [cmp_ne rfl rfl (Nat.zero_le _) (Nat.zero_le _)]
  simp only [deq, Bool.beq_eq_decide_eq]
@[simp] theorem cmp_eqb {i j : Bool} : cmp .Eq (.bl i) (.bl j) S = .ok (.bl (i == j)) S := by
  rw [cmp_eq rfl rfl (Nat.zero_le _) (Nat.zero_le _)]
  simp only [deq]
@[simp] theorem cmp_neb {i j : Bool} : cmp .NotEq (.bl i) (.bl j) S = .ok (.bl (!(i == j))) S := by
  rw [cmp_ne rfl rfl (Nat.zero_le _) (Nat.zero_le _)]
  simp only [deq]
theorem cmp_eqp {a b : D} (ha : pd a = true) (hb : pd b = true) (h1 : dep a ≤ 64) (h2 : dep b ≤ 64) : cmp .Eq a b S = .ok (.bl (deq a b)) S := cmp_eq ha hb h1 h2
theorem cmp_nep {a b : D} (ha : pd a = true) (hb : pd b = true) (h1 : dep a ≤ 64) (h2 : dep b ≤ 64) : cmp .NotEq a b S = .ok (.bl (!deq a b)) S := cmp_ne ha hb h1 h2
@[simp] theorem cmp_is {x : D} : cmp .Is x .non S = .ok (.bl (decide (x = .non))) S := rfl
@[simp] theorem cmp_isnt {x : D} : cmp .IsNot x .non S = .ok (.bl (!decide (x = .non))) S := rfl
/-! kinds -/
def tyOr (o : Option Bool) (r : Option Bool) : Option Bool := match o with
  | some true => some true
  | some false => r
  | none => none
@[simp] theorem tyOr_some {b c : Bool} : tyOr (some b) (some c) = some (b || c) := by cases b <;> rfl
@[simp] theorem isTys_nil {d : D} : isTys d [] = some false := rfl
@[simp] theorem isTys_cons {d : D} {t : Ty} {ts : List Ty} : isTys d (t :: ts) = tyOr (isTy d t) (isTys d ts) := rfl
@[simp] theorem isTy_tup {ds : List D} {t : Ty} : isTy (.tup ds) t = some (decide (t = .tuple)) := by cases t <;> rfl
@[simp] theorem isTy_fl {ds : List D} {t : Ty} : isTy (.fl ds) t = some (decide (t = .list)) := by cases t <;> rfl
@[simp] theorem isTy_kl {ds : List D} {t : Ty} : isTy (.kl ds) t = some (decide (t = .list)) := by cases t <;> rfl
@[simp] theorem isTy_int {i : Int} {t : Ty} : isTy (.int i) t = some (decide (t = .int)) := by cases t <;> rfl
@[simp] theorem isTy_bl {i : Bool} {t : Ty} : isTy (.bl i) t = some (decide (t = .int) || decide (t = .bool)) := by cases t <;> rfl
@[simp] theorem isTy_str {i : List Nat} {t : Ty} : isTy (.str i) t = some (decide (t = .str)) := by cases t <;> rfl
@[simp] theorem isTy_non {t : Ty} : isTy .non t = some false := by cases t <;> rfl
@[simp] theorem live_tup {ds : List D} : liveD S (.tup ds) = .tup ds := rfl
@[simp] theorem live_fl {ds : List D} : liveD S (.fl ds) = .fl ds := rfl
@[simp] theorem live_kl {ds : List D} : liveD S (.kl ds) = .kl ds := rfl
@[simp] theorem live_int {i : Int} : liveD S (.int i) = .int i := rfl
@[simp] theorem live_bl {i : Bool} : liveD S (.bl i) = .bl i := rfl
@[simp] theorem live_str {i : List Nat} : liveD S (.str i) = .str i := rfl
@[simp] theorem live_non : liveD S .non = .non := rfl
/-! lists -/
@[simp] theorem items_tup {ds : List D} : itemsOf S (.tup ds) = some ds := rfl
@[simp] theorem items_fl {ds : List D} : itemsOf S (.fl ds) = some ds := rfl
@[simp] theorem items_kl {ds : List D} : itemsOf S (.kl ds) = some ds := rfl
@[simp] theorem listOf_fl {ds : List D} : listOf S (.fl ds) = some ds := rfl
@[simp] theorem listOf_kl {ds : List D} : listOf S (.kl ds) = some ds := rfl
@[simp] theorem bi_len_tup {ds : List D} : bi .len (.tup ds) S = .ok (.int ds.length) S := rfl
@[simp] theorem bi_len_fl {ds : List D} : bi .len (.fl ds) S = .ok (.int ds.length) S := rfl
@[simp] theorem bi_len_kl {ds : List D} : bi .len (.kl ds) S = .ok (.int ds.length) S := rfl
@[simp] theorem bi_int_int {i : Int} : bi .int (.int i) S = .ok (.int i) S := rfl
@[simp] theorem bi_int_bl {p : Bool} : bi .int (.bl p) S = .ok (.int (if p then 1 else 0)) S := rfl
@[simp] theorem bi_abs {i : Int} : bi .abs (.int i) S = .ok (.int (if i < 0 then -i else i)) S := rfl
@[simp] theorem bi_tuple_tup {ds : List D} : bi .tuple (.tup ds) S = .ok (.tup ds) S := rfl
@[simp] theorem bi_tuple_fl {ds : List D} : bi .tuple (.fl ds) S = .ok (.tup ds) S := rfl
@[simp] theorem bi_tuple_kl {ds : List D} : bi .tuple (.kl ds) S = .ok (.tup ds) S := rfl
theorem bls_map {l : List α} {q : α → Bool} : bls? (l.map fun a => D.bl (q a)) = some (l.map q) := by
  have := bls?_map (l.map q)
  rw [List.map_map] at this
  exact this
theorem ints_map {l : List α} {q : α → Int} : ints? (l.map fun a => D.int (q a)) = some (l.map q) := by
  have := ints?_map (l.map q)
  rw [List.map_map] at this
  exact this
@[simp] theorem bi_all_map {l : List α} {q : α → Bool} : bi .all (.fl (l.map fun a => D.bl (q a))) S = .ok (.bl (l.all q)) S := by
  unfold bi
  simp only [listOf_fl, Option.bind_some, bls_map, opt_some, List.all_map]
  rfl
@[simp] theorem bi_any_map {l : List α} {q : α → Bool} : bi .any (.fl (l.map fun a => D.bl (q a))) S = .ok (.bl (l.any q)) S := by
  unfold bi
  simp only [listOf_fl, Option.bind_some, bls_map, opt_some, List.any_map]
  rfl
@[simp] theorem bi_sum_map {l : List α} {q : α → Int} : bi .sum (.fl (l.map fun a => D.int (q a))) S = .ok (.int (l.map q).sum) S := by
  unfold bi
  simp only [items_fl, Option.bind_some, ints_map, opt_some]
@[simp] theorem bi_sum_mapt {l : List α} {q : α → Int} : bi .sum (.tup (l.map fun a => D.int (q a))) S = .ok (.int (l.map q).sum) S := by
  unfold bi
  simp only [items_tup, Option.bind_some, ints_map, opt_some]
/-- o[i] -/
def atO (l : List D) (i : Int) : Option D := L2.atI l i
@[simp] theorem ix_tupO {l : List D} {i : Int} : toO (ixD (.tup l) (.int i) S) = atO l i := by
  show toO (opt (L2.atI l i) fun d => .ok d S) = L2.atI l i
  cases L2.atI l i <;> rfl
@[simp] theorem ix_flO {l : List D} {i : Int} : toO (ixD (.fl l) (.int i) S) = atO l i := by
  show toO (opt (L2.atI l i) fun d => .ok d S) = L2.atI l i
  cases L2.atI l i <;> rfl
@[simp] theorem ix_klO {l : List D} {i : Int} : toO (ixD (.kl l) (.int i) S) = atO l i := by
  show toO (opt (L2.atI l i) fun d => .ok d S) = L2.atI l i
  cases L2.atI l i <;> rfl
@[simp] theorem atO_nat {l : List D} {k : Nat} : atO l (k : Int) = l[k]? := by
  unfold atO
  cases h : l[k]? with
  | some v => exact L2.atI_nat h
  | none =>
    unfold L2.atI L2.ixN
    have : l.length ≤ k := List.getElem?_eq_none_iff.mp h
    rw [if_pos (by omega), if_neg (by omega)]
    rfl
@[simp] theorem atO_0 {l : List D} : atO l 0 = l[0]? := atO_nat (k := 0)
@[simp] theorem atO_1 {l : List D} : atO l 1 = l[1]? := atO_nat (k := 1)
@[simp] theorem atO_lit {l : List D} {k : Nat} : atO l (@OfNat.ofNat Int (no_index k) (@instOfNat k)) = l[k]? := atO_nat (k := k)
theorem atO_last {l : List D} {v : D} : atO (l ++ [v]) (-1) = some v := L2.atI_last l v
theorem sIx_nat' (n d k : Nat) : HT.sIx n d (some (k : Int)) = min k n := by
  show (if (k : Int) < 0 then ((k : Int) + (n : Int)).toNat else min (k : Int).toNat n) = min k n
  rw [if_neg (by omega), Int.toNat_natCast]
@[simp] theorem cut_from {l : List D} {k : Nat} : cutD l (some (k : Int)) none = l.drop k := by
  unfold cutD
  rw [sIx_nat', show HT.sIx l.length l.length none = l.length from rfl]
  by_cases h : k ≤ l.length
  · rw [Nat.min_eq_left h, List.take_of_length_le (by simp)]
  · rw [Nat.min_eq_right (by omega), List.drop_of_length_le (Nat.le_refl _), List.drop_of_length_le (by omega)]
    simp
@[simp] theorem cut_to {l : List D} {k : Nat} : cutD l none (some (k : Int)) = l.take k := by
  unfold cutD
  rw [sIx_nat', show HT.sIx l.length 0 none = 0 from rfl]
  by_cases h : k ≤ l.length
  · rw [Nat.min_eq_left h]; simp
  · rw [Nat.min_eq_right (by omega)]
    simp
    rw [List.take_of_length_le (by omega)]
@[simp] theorem cut_from0 {l : List D} : cutD l (some 0) none = l := by
  have := cut_from (l := l) (k := 0)
  simpa using this
@[simp] theorem cut_from1 {l : List D} : cutD l (some 1) none = l.drop 1 := cut_from (k := 1)
@[simp] theorem cut_fromN {l : List D} {k : Nat} : cutD l (some (@OfNat.ofNat Int (no_index k) (@instOfNat k))) none = l.drop k := cut_from (k := k)
@[simp] theorem cut_to1 {l : List D} : cutD l none (some 1) = l.take 1 := cut_to (k := 1)
@[simp] theorem cut_toN {l : List D} {k : Nat} : cutD l none (some (@OfNat.ofNat Int (no_index k) (@instOfNat k))) = l.take k := cut_to (k := k)
@[simp] theorem cut_to1n {l : List D} : cutD l none (some (-1)) = l.dropLast := by
  unfold cutD
  rw [show HT.sIx l.length 0 none = 0 from rfl]
  show ((l.drop 0).take ((if (-1 : Int) < 0 then ((-1 : Int) + (l.length : Int)).toNat else min (-1 : Int).toNat l.length) - 0)) = _
  rw [if_pos (by decide), List.dropLast_eq_take]
  simp
  congr 1
  omega
@[simp] theorem sl_tup {l : List D} {lo hi : Option Int} : slD (.tup l) lo hi S = .ok (.tup (cutD l lo hi)) S := rfl
@[simp] theorem sl_fl {l : List D} {lo hi : Option Int} : slD (.fl l) lo hi S = .ok (.fl (cutD l lo hi)) S := rfl
@[simp] theorem sl_kl {l : List D} {lo hi : Option Int} : slD (.kl l) lo hi S = .ok (.fl (cutD l lo hi)) S := rfl
@[simp] theorem rev_tup {l : List D} : revD (.tup l) S = .ok (.tup l.reverse) S := rfl
@[simp] theorem rev_fl {l : List D} : revD (.fl l) S = .ok (.fl l.reverse) S := rfl
@[simp] theorem bin_addt {u v : List D} (h : u.length + v.length ≤ 16777216) : bin .Add (.tup u) (.tup v) S = .ok (.tup (u ++ v)) S := by
  exact if_pos (c := u.length + v.length ≤ lim) h
@[simp] theorem bin_addl {u v : List D} (h : u.length + v.length ≤ 16777216) : bin .Add (.fl u) (.fl v) S = .ok (.fl (u ++ v)) S := by
  exact if_pos (c := u.length + v.length ≤ lim) h
@[simp] theorem seq_tup {l : List D} : seqO S (.tup l) = some l := rfl
@[simp] theorem seq_fl {l : List D} : seqO S (.fl l) = some l := rfl
@[simp] theorem seq_kl {l : List D} : seqO S (.kl l) = some l := rfl
@[simp] theorem zip_tup {l m : List D} : zipO S (.tup l) (.tup m) = some (List.zipWith (fun p q => D.tup [p, q]) l m) := rfl
@[simp] theorem zip_fl {l m : List D} : zipO S (.fl l) (.fl m) = some (List.zipWith (fun p q => D.tup [p, q]) l m) := rfl
@[simp] theorem enum_tup {l : List D} : enumO S (.tup l) = some (l.zipIdx.map fun p => D.tup [D.int (p.2 : Nat), p.1]) := rfl
@[simp] theorem enum_fl {l : List D} : enumO S (.fl l) = some (l.zipIdx.map fun p => D.tup [D.int (p.2 : Nat), p.1]) := rfl
theorem rng1O_ok {j : Int} (h1 : -(2 ^ 62) ≤ j) (h2 : j < 2 ^ 62) : rng1O (.int j) = some (ints0 j.toNat) := if_pos ⟨h1, h2⟩
theorem rng2O_ok {i j : Int} (h1 : -(2 ^ 62) ≤ i) (h2 : i < 2 ^ 62) (h3 : -(2 ^ 62) ≤ j) (h4 : j < 2 ^ 62) : rng2O (.int i) (.int j) = some (rngs i (j - i).toNat) := if_pos ⟨h1, h2, h3, h4⟩
@[simp] theorem rng1_nat {k : Nat} (h : k ≤ 16777216) : rng1O (.int (k : Int)) = some ((List.range k).map fun (i : Nat) => D.int (i : Int)) := by
  rw [rng1O_ok rng_lo (rng_hi h), Int.toNat_natCast]
  rfl
@[simp] theorem rng1_0 : rng1O (.int 0) = some ((List.range 0).map fun (i : Nat) => D.int (i : Int)) := rng1_nat (k := 0) (by decide)
@[simp] theorem rng1_1 : rng1O (.int 1) = some ((List.range 1).map fun (i : Nat) => D.int (i : Int)) := rng1_nat (k := 1) (by decide)
@[simp] theorem rng1_lit {k : Nat} (h : k ≤ 16777216) : rng1O (.int (@OfNat.ofNat Int (no_index k) (@instOfNat k))) = some ((List.range k).map fun (i : Nat) => D.int (i : Int)) := rng1_nat (k := k) h
theorem rng2_nat {i j : Nat} (h1 : i ≤ 16777216) (h : j ≤ 16777216) : rng2O (.int (i : Int)) (.int (j : Int)) = some ((List.range (j - i)).map fun (t : Nat) => D.int ((i + t : Nat) : Int)) := by
  rw [rng2O_ok rng_lo (rng_hi h1) rng_lo (rng_hi h)]
  unfold rngs
  have e : ((j : Int) - (i : Int)).toNat = j - i := by omega
  rw [e]
  simp
/-! comprehensions -/
theorem pfm_congr {l l' : List α} {p p' : α → Option Bool} {f f' : α → Option β} (h : l = l') (hp : ∀ a, a ∈ l' → p a = p' a) (hf : ∀ a, a ∈ l' → f a = f' a) : pfm l p f = pfm l' p' f' := by
  subst h
  induction l with
  | nil => rfl
  | cons a l ih =>
    unfold pfm
    rw [hp a List.mem_cons_self, hf a List.mem_cons_self, ih (fun x hx => hp x (List.mem_cons_of_mem _ hx)) (fun x hx => hf x (List.mem_cons_of_mem _ hx))]
theorem pmap_congr {l l' : List α} {f f' : α → Option β} (h : l = l') (hf : ∀ a, a ∈ l' → f a = f' a) : pmap l f = pmap l' f' := by
  subst h
  induction l with
  | nil => rfl
  | cons a l ih =>
    unfold pmap
    rw [hf a List.mem_cons_self, ih (fun x hx => hf x (List.mem_cons_of_mem _ hx))]
@[simp ↓] theorem pfm_map {γ : Type} {l : List γ} {h : γ → α} {p : α → Option Bool} {f : α → Option β} : pfm (l.map h) p f = pfm l (fun a => p (h a)) (fun a => f (h a)) := by
  induction l with
  | nil => rfl
  | cons a l ih => simp only [List.map_cons, pfm, ih]
@[simp ↓] theorem pmap_map {γ : Type} {l : List γ} {h : γ → α} {f : α → Option β} : pmap (l.map h) f = pmap l (fun a => f (h a)) := by
  induction l with
  | nil => rfl
  | cons a l ih => simp only [List.map_cons, pmap, ih]
@[simp] theorem pmap_some {l : List α} {g : α → β} : pmap l (fun a => some (g a)) = some (l.map g) := by
  induction l with
  | nil => rfl
  | cons a l ih => simp only [List.map_cons, pmap, ih, Option.bind_some]
@[simp] theorem pfm_true {l : List α} {f : α → Option β} : pfm l (fun _ => some true) f = pmap l f := by
  induction l with
  | nil => rfl
  | cons a l ih => simp only [pfm, pmap, ih, Option.bind_some, if_true]
@[simp] theorem pfm_test {l : List α} {q : α → Bool} {f : α → Option β} : pfm l (fun a => some (q a)) f = pmap (l.filter q) f := by
  induction l with
  | nil => rfl
  | cons a l ih =>
    simp only [pfm, Option.bind_some, ih]
    cases h : q a with
    | true => rw [List.filter_cons_of_pos h]; simp [pmap]
    | false => rw [List.filter_cons_of_neg (by simp [h])]; simp
@[simp] theorem setTg_nm {i : Nat} {d : D} {s : Sl} : setTg (.nm i) d s = some (s.set i (some d)) := rfl
@[simp] theorem setTg_tp {is : List Nat} {ds : List D} {s : Sl} : setTg (.tp is) (.tup ds) s = setSl is ds s := rfl
@[simp] theorem setSl_nil {s : Sl} : setSl [] [] s = some s := rfl
@[simp] theorem setSl_cons {i : Nat} {is : List Nat} {d : D} {ds : List D} {s : Sl} : setSl (i :: is) (d :: ds) s = setSl is ds (s.set i (some d)) := rfl
@[simp] theorem wipe_nil {s : Sl} : wipeD s [] = s := rfl
@[simp] theorem wipe_cons {s : Sl} {v : Nat} {vs : List Nat} : wipeD s (v :: vs) = (wipeD s vs).set v none := rfl
end

/-! ### rules, one for each kind of text -/
section
variable {cf : Nat → List D → Store → R D} {S : Store} {s : Sl} {a b c e : E} {es : List E} {x y z v w : D} {p q : Bool}
theorem r_var {i : Nat} (h : s[i]? = some (some v)) : pv cf S (.var i) s = some v := by simp [h]
theorem r_con : pv cf S (.con v) s = some v := by simp
theorem r_bin {op : Operator} (ha : pv cf S a s = some x) (hb : pv cf S b s = some y) (h : toO (bin op x y S) = some v) : pv cf S (.bin op a b) s = some v := by simp [ha, hb, h]
theorem r_neg {i : Int} (ha : pv cf S a s = some (.int i)) : pv cf S (.neg a) s = some (.int (-i)) := by simp [ha]
theorem r_not (ha : pv cf S a s = some (.bl p)) : pv cf S (.not a) s = some (.bl (!p)) := by simp [ha]
theorem r_cmp {op : CmpOp} (ha : pv cf S a s = some x) (hb : pv cf S b s = some y) (h : toO (cmp op x y S) = some v) : pv cf S (.cmp op a b) s = some v := by simp [ha, hb, h]
theorem r_chn {op op' : CmpOp} (ha : pv cf S a s = some x) (hb : pv cf S b s = some y) (h : toO (cmp op x y S) = some (.bl p)) (hc : p = true → pv cf S c s = some z) (h2 : p = true → toO (cmp op' y z S) = some (.bl q)) : pv cf S (.chn op op' a b c) s = some (.bl (p && q)) := by
  simp only [pv, ha, hb, h, Option.bind_some, bcase_bl]
  cases p with
  | true => simp [hc rfl, h2 rfl]
  | false => rfl
theorem r_isIn {ng : Bool} {ds : List D} (ha : pv cf S a s = some x) (hb : pv cf S b s = some y) (hi : itemsOf S y = some ds) (hx : flatD x = true) (hd : ds.all flatD = true) : pv cf S (.isIn ng a b) s = some (.bl (if ng then !ds.any (eqF · x) else ds.any (eqF · x))) := by
  simp only [pv, ha, hb, Option.bind_some, inO, hi, hx, hd, Bool.and_self, if_true]
theorem r_and {es : List E} (h : pvAnd cf S es s = some v) : pv cf S (.and es) s = some v := by simp [h]
theorem r_or {es : List E} (h : pvOr cf S es s = some v) : pv cf S (.or es) s = some v := by simp [h]
theorem r_and1 (h : pv cf S e s = some v) : pvAnd cf S [e] s = some v := by simp [h]
theorem r_andc {e2 : E} (h : pv cf S e s = some (.bl p)) (h2 : p = true → pvAnd cf S (e2 :: es) s = some (.bl q)) : pvAnd cf S (e :: e2 :: es) s = some (.bl (p && q)) := by
  rw [pvAnd, h, Option.bind_some, bcase_bl]
  cases p with
  | true => rw [if_pos rfl, h2 rfl]; rfl
  | false => rfl
theorem r_or1 (h : pv cf S e s = some v) : pvOr cf S [e] s = some v := by simp [h]
theorem r_orc {e2 : E} (h : pv cf S e s = some (.bl p)) (h2 : p = false → pvOr cf S (e2 :: es) s = some (.bl q)) : pvOr cf S (e :: e2 :: es) s = some (.bl (p || q)) := by
  rw [pvOr, h, Option.bind_some, bcase_bl]
  cases p with
  | true => rfl
  | false => rw [if_neg Bool.false_ne_true, h2 rfl]; rfl
theorem r_ite (h : pv cf S c s = some (.bl p)) (ha : p = true → pv cf S a s = some x) (hb : p = false → pv cf S b s = some y) : pv cf S (.ite c a b) s = some (if p then x else y) := by
  rw [pv, h, Option.bind_some, bcase_bl]
  cases p with
  | true => rw [if_pos rfl, ha rfl]; rfl
  | false => rw [if_neg Bool.false_ne_true, hb rfl]; rfl
theorem r_call {f : Nat} {vs : List D} (h : pvs cf S es s = some vs) (hc : cf f vs S = .ok v S) : pv cf S (.call f es) s = some v := by simp [h, hc]
theorem r_bi {bb : Bi} (ha : pv cf S a s = some x) (h : toO (bi bb x S) = some v) : pv cf S (.bi bb a) s = some v := by simp [ha, h]
theorem r_lset {l : List Int} (ha : pv cf S a s = some x) (hx : (listOf S x).bind ints? = some l) (hl : l.length ≤ 4000) : pv cf S (.lset a) s = some (.int ((dedup [] l).length : Nat)) := by
  simp only [pv, ha, Option.bind_some, lsetO, hx]
  rw [if_pos hl]
theorem r_isi {ts : List Ty} (ha : pv cf S a s = some x) (h : isTys (liveD S x) ts = some p) : pv cf S (.isi a ts) s = some (.bl p) := by
  rw [pv, ha, Option.bind_some, h, Option.bind_some]
theorem r_ix {i : E} (ha : pv cf S a s = some x) (hb : pv cf S i s = some y) (h : toO (ixD x y S) = some v) : pv cf S (.ix a i) s = some v := by simp [ha, hb, h]
theorem r_sl {lo hi : Option E} {l h : Option Int} (ha : pv cf S a s = some x) (hl : pvO cf S lo s = some l) (hh : pvO cf S hi s = some h) (hr : toO (slD x l h S) = some v) : pv cf S (.sl a lo hi) s = some v := by simp [ha, hl, hh, hr]
theorem r_none : pvO cf S none s = some none := by simp
theorem r_some {i : Int} (h : pv cf S e s = some (.int i)) : pvO cf S (some e) s = some (some i) := by simp [h]
theorem r_rev (ha : pv cf S a s = some x) (h : toO (revD x S) = some v) : pv cf S (.rev a) s = some v := by simp [ha, h]
theorem r_tup {vs : List D} (h : pvs cf S es s = some vs) (hl : vs.length ≤ 16777216) : pv cf S (.tup es) s = some (.tup vs) := by simp [h, hl]
theorem r_lst {vs : List D} (h : pvs cf S es s = some vs) (hl : vs.length ≤ 16777216) : pv cf S (.lst false es) s = some (.fl vs) := by simp [h, hl]
theorem r_lof {ds : List D} (ha : pv cf S a s = some x) (hi : itemsOf S x = some ds) (hl : ds.length ≤ 16777216) : pv cf S (.lof false a) s = some (.fl ds) := by simp [ha, hi, hl]
theorem r_nil : pvs cf S [] s = some [] := by simp
theorem r_cons {vs : List D} (h : pv cf S e s = some v) (h2 : pvs cf S es s = some vs) : pvs cf S (e :: es) s = some (v :: vs) := by simp [h, h2]
/-- a list told as the values of one's own list -/
theorem l_self (l : List D) : l = l.map fun d => d := by simp
theorem pfm_eq {α β : Type} {l : List α} {P : α → Option Bool} {f : α → Option β} {q : α → Bool} {g : α → β} (hp : ∀ a, a ∈ l → P a = some (q a)) (hf : ∀ a, a ∈ l → q a = true → f a = some (g a)) : pfm l P f = some ((l.filter q).map g) := by
  induction l with
  | nil => rfl
  | cons a l ih =>
    unfold pfm
    rw [hp a List.mem_cons_self, Option.bind_some, ih (fun x hx => hp x (List.mem_cons_of_mem _ hx)) fun x hx => hf x (List.mem_cons_of_mem _ hx)]
    cases h : q a with
    | true => rw [if_pos rfl, hf a List.mem_cons_self h, List.filter_cons_of_pos h]; rfl
    | false => rw [if_neg Bool.false_ne_true, List.filter_cons_of_neg (by simp [h])]
variable {α : Type} {tg : Tg} {it : It} {ifs : List E} {own : List Nat} {ds : List D} {l : List α} {h : α → D}
/-- all of it -/
theorem r_comp {g : α → D} (hit : pvIt cf S it s = some ds) (hd : ds = l.map h) (hl : l.length ≤ 16777216) (hf : ∀ a, a ∈ l → ∃ s1, setTg tg (h a) (wipeD s own) = some s1 ∧ pv cf S e s1 = some (g a)) : pv cf S (.cmph false e tg it [] own) s = some (.fl (l.map g)) := by
  subst hd
  simp only [pv, hit, Option.bind_some, Bool.false_eq_true, if_false]
  rw [cutO_ok (by simpa using hl), Option.bind_some, pfm_map, pfm_eq (q := fun _ => true) (g := g)]
  · rw [List.filter_eq_self.mpr fun _ _ => rfl]; rfl
  · intro a ha
    obtain ⟨s1, e1, e2⟩ := hf a ha
    rw [e1, Option.bind_some, pvIfs]
  · intro a ha _
    obtain ⟨s1, e1, e2⟩ := hf a ha
    rw [e1, Option.bind_some, e2]
/-- those that a test takes -/
theorem r_compf {t : E} {q : α → Bool} {g : α → D} (hit : pvIt cf S it s = some ds) (hd : ds = l.map h) (hl : l.length ≤ 16777216) (ht : ∀ a, a ∈ l → ∃ s1, setTg tg (h a) (wipeD s own) = some s1 ∧ pv cf S t s1 = some (.bl (q a)) ) (hf : ∀ a, a ∈ l → q a = true → ∃ s1, setTg tg (h a) (wipeD s own) = some s1 ∧ pv cf S e s1 = some (g a)) : pv cf S (.cmph false e tg it [t] own) s = some (.fl ((l.filter q).map g)) := by
  subst hd
  simp only [pv, hit, Option.bind_some, Bool.false_eq_true, if_false]
  rw [cutO_ok (by simpa using hl), Option.bind_some, pfm_map, pfm_eq (q := q) (g := g)]
  · simp
  · intro a ha
    obtain ⟨s1, e1, e2⟩ := ht a ha
    rw [e1, Option.bind_some, pvIfs, e2]
    rfl
  · intro a ha hq
    obtain ⟨s1, e1, e2⟩ := hf a ha hq
    rw [e1, Option.bind_some, e2]
theorem r_seq (ha : pv cf S a s = some x) (h : seqO S x = some ds) : pvIt cf S (.seq a) s = some ds := by simp [ha, h]
theorem r_rng1 {k : Nat} (ha : pv cf S a s = some (.int (k : Int))) (hk : k ≤ 16777216) : pvIt cf S (.rng1 a) s = some ((List.range k).map fun (i : Nat) => D.int (i : Int)) := by
  rw [pvIt, ha, Option.bind_some]
  exact rng1_nat hk
theorem r_rng1l {k : Nat} (ha : pv cf S a s = some (.int (@OfNat.ofNat Int k (@instOfNat k)))) (hk : k ≤ 16777216) : pvIt cf S (.rng1 a) s = some ((List.range k).map fun (i : Nat) => D.int (i : Int)) := r_rng1 ha hk
theorem r_rng2 {i j : Int} {i' j' : Nat} (ha : pv cf S a s = some (.int i)) (hb : pv cf S b s = some (.int j)) (e1 : i = (i' : Int)) (e2 : j = (j' : Int)) (h1 : i' ≤ 16777216) (h2 : j' ≤ 16777216) : pvIt cf S (.rng2 a b) s = some ((List.range (j' - i')).map fun (t : Nat) => D.int ((i' + t : Nat) : Int)) := by
  subst e1 e2
  rw [pvIt, ha, Option.bind_some, hb, Option.bind_some]
  exact rng2_nat h1 h2
theorem r_zip (ha : pv cf S a s = some x) (hb : pv cf S b s = some y) (h : zipO S x y = some ds) : pvIt cf S (.zip a b) s = some ds := by simp [ha, hb, h]
theorem r_enum (ha : pv cf S a s = some x) (h : enumO S x = some ds) : pvIt cf S (.enum a) s = some ds := by simp [ha, h]
/-! leaves -/
theorem t_mul {i j : Int} (h : mulOk i j = true) : toO (bin .Mult (.int i) (.int j) S) = some (.int (i * j)) := by rw [bin_mult h]; rfl
theorem t_fdiv {i j : Int} (h : divOk j = true) : toO (bin .FloorDiv (.int i) (.int j) S) = some (.int (i.fdiv j)) := by rw [bin_fdiv h]; rfl
theorem t_mod {i j : Int} (h : j ≠ 0) : toO (bin .Mod (.int i) (.int j) S) = some (.int (i.fmod j)) := by rw [bin_mod h]; rfl
theorem t_eqi {i j : Int} : toO (cmp .Eq (.int i) (.int j) S) = some (.bl (decide (i = j))) := by rw [cmp_eqi]; rfl
theorem t_nei {i j : Int} : toO (cmp .NotEq (.int i) (.int j) S) = some (.bl (!decide (i = j))) := by rw [cmp_nei]; rfl
theorem t_eqb {i j : Bool} : toO (cmp .Eq (.bl i) (.bl j) S) = some (.bl (i == j)) := by rw [cmp_eqb]; rfl
theorem t_neb {i j : Bool} : toO (cmp .NotEq (.bl i) (.bl j) S) = some (.bl (!(i == j))) := by rw [cmp_neb]; rfl
theorem t_eqp (ha : pd x = true) (hb : pd y = true) (h1 : dep x ≤ 64) (h2 : dep y ≤ 64) : toO (cmp .Eq x y S) = some (.bl (deq x y)) := by rw [cmp_eq ha hb h1 h2]; rfl
theorem t_nep (ha : pd x = true) (hb : pd y = true) (h1 : dep x ≤ 64) (h2 : dep y ≤ 64) : toO (cmp .NotEq x y S) = some (.bl (!deq x y)) := by rw [cmp_ne ha hb h1 h2]; rfl
theorem t_addt {u v : List D} (h : u.length + v.length ≤ 16777216) : toO (bin .Add (.tup u) (.tup v) S) = some (.tup (u ++ v)) := by rw [bin_addt h]; rfl
theorem t_addl {u v : List D} (h : u.length + v.length ≤ 16777216) : toO (bin .Add (.fl u) (.fl v) S) = some (.fl (u ++ v)) := by rw [bin_addl h]; rfl
theorem t_all {l : List α} {q : α → Bool} : toO (bi .all (.fl (l.map fun a => D.bl (q a))) S) = some (.bl (l.all q)) := by rw [bi_all_map]; rfl
theorem t_any {l : List α} {q : α → Bool} : toO (bi .any (.fl (l.map fun a => D.bl (q a))) S) = some (.bl (l.any q)) := by rw [bi_any_map]; rfl
theorem t_sum {l : List α} {q : α → Int} : toO (bi .sum (.fl (l.map fun a => D.int (q a))) S) = some (.int (l.map q).sum) := by rw [bi_sum_map]; rfl
theorem t_sumt {l : List α} {q : α → Int} : toO (bi .sum (.tup (l.map fun a => D.int (q a))) S) = some (.int (l.map q).sum) := by rw [bi_sum_mapt]; rfl
theorem isP {P : Prop} (h : P) : P := h
theorem t_add {i j : Int} : toO (bin .Add (.int i) (.int j) S) = some (.int (i + j)) := rfl
theorem t_sub {i j : Int} : toO (bin .Sub (.int i) (.int j) S) = some (.int (i - j)) := rfl
theorem t_lt {i j : Int} : toO (cmp .Lt (.int i) (.int j) S) = some (.bl (decide (i < j))) := rfl
theorem t_le {i j : Int} : toO (cmp .LtE (.int i) (.int j) S) = some (.bl (decide (i ≤ j))) := rfl
theorem t_gt {i j : Int} : toO (cmp .Gt (.int i) (.int j) S) = some (.bl (decide (j < i))) := rfl
theorem t_ge {i j : Int} : toO (cmp .GtE (.int i) (.int j) S) = some (.bl (decide (j ≤ i))) := rfl
theorem t_is : toO (cmp .Is x .non S) = some (.bl (decide (x = .non))) := rfl
theorem t_isnt : toO (cmp .IsNot x .non S) = some (.bl (!decide (x = .non))) := rfl
theorem t_lent {l : List D} : toO (bi .len (.tup l) S) = some (.int (l.length : Int)) := rfl
theorem t_lenl {l : List D} : toO (bi .len (.fl l) S) = some (.int (l.length : Int)) := rfl
theorem t_lenk {l : List D} : toO (bi .len (.kl l) S) = some (.int (l.length : Int)) := rfl
theorem t_inti {i : Int} : toO (bi .int (.int i) S) = some (.int i) := rfl
theorem t_intb {p : Bool} : toO (bi .int (.bl p) S) = some (.int (if p then 1 else 0)) := rfl
theorem t_tupl {l : List D} : toO (bi .tuple (.fl l) S) = some (.tup l) := rfl
theorem t_tupt {l : List D} : toO (bi .tuple (.tup l) S) = some (.tup l) := rfl
theorem t_slt {l : List D} {lo hi : Option Int} : toO (slD (.tup l) lo hi S) = some (.tup (cutD l lo hi)) := rfl
theorem t_sll {l : List D} {lo hi : Option Int} : toO (slD (.fl l) lo hi S) = some (.fl (cutD l lo hi)) := rfl
theorem t_revt {l : List D} : toO (revD (.tup l) S) = some (.tup l.reverse) := rfl
theorem t_revl {l : List D} : toO (revD (.fl l) S) = some (.fl l.reverse) := rfl
theorem t_ixt {l : List D} {k : Nat} (h : l[k]? = some v) : toO (ixD (.tup l) (.int (k : Int)) S) = some v := by rw [ix_tup h]; rfl
theorem t_ixtl {l : List D} {k : Nat} (h : l[k]? = some v) : toO (ixD (.tup l) (.int (@OfNat.ofNat Int k (@instOfNat k))) S) = some v := t_ixt h
theorem t_ixl {l : List D} {k : Nat} (h : l[k]? = some v) : toO (ixD (.fl l) (.int (k : Int)) S) = some v := by rw [ix_fl h]; rfl
theorem t_ixll {l : List D} {k : Nat} (h : l[k]? = some v) : toO (ixD (.fl l) (.int (@OfNat.ofNat Int k (@instOfNat k))) S) = some v := t_ixl h
theorem g_map {l : List α} {f : α → D} {k : Nat} {a : α} (h : l[k]? = some a) : (l.map f)[k]? = some (f a) := by rw [List.getElem?_map, h]; rfl
theorem g_rng {n k : Nat} (h : k < n) : (List.range n)[k]? = some k := by simp [h]
theorem q_tup {l : List D} : seqO S (.tup l) = some l := rfl
theorem q_fl {l : List D} : seqO S (.fl l) = some l := rfl
theorem q_kl {l : List D} : seqO S (.kl l) = some l := rfl
theorem y_pd {t : Ty} (h : pd x = true) : isTys (liveD S x) [t] = some (isTyB x t) := by
  rw [liveD_pd h, isTys_cons, isTy_pd h, isTys_nil, tyOr_some, Bool.or_false]
theorem y_pd2 {t u : Ty} (h : pd x = true) : isTys (liveD S x) [t, u] = some (isTyB x t || isTyB x u) := by
  rw [liveD_pd h, isTys_cons, isTys_cons, isTy_pd h, isTy_pd h, isTys_nil, tyOr_some, tyOr_some, Bool.or_false]
theorem big64 : 1048576 < 2 ^ 64 := Nat.pow_lt_pow_right (a := 2) (m := 20) (n := 64) (by decide) (by decide)
theorem mulOk_l {i j : Int} (h : i.natAbs < 1048576) : mulOk i j = true := by
  unfold mulOk
  rw [show decide (i.natAbs < 2 ^ 64) = true from decide_eq_true (Nat.lt_trans h big64)]
  simp only [Bool.true_or]
theorem mulOk_rr {i j : Int} (h : j.natAbs < 1048576) : mulOk i j = true := by
  unfold mulOk
  rw [show decide (j.natAbs < 2 ^ 64) = true from decide_eq_true (Nat.lt_trans h big64)]
  simp only [Bool.true_or, Bool.or_true]
theorem divOk_s {j : Int} (h : j ≠ 0) (h2 : j.natAbs < 1073741824) : divOk j = true := by
  unfold divOk
  rw [decide_eq_true h, decide_eq_true h2]
  rfl
end
/-! ### statements -/
section
variable {cf : Nat → List D → Store → R D} {n : Nat} {s : Sl} {S S1 : Store} {k : Kt} {rest : List St}
theorem execs_app {a b : List St} (h : wpF (execs cf n a s S) { k with nx := fun s S => wpF (execs cf n b s S) k }) : wpF (execs cf n (a ++ b) s S) k := by
  induction a generalizing s S with
  | nil =>
    simp only [execs] at h
    exact h
  | cons st a ih =>
    simp only [execs, List.cons_append] at h ⊢
    cases e : exec cf n st s S <;> rw [e] at h <;> first | exact h | exact ih h
theorem app_execs {a b : List St} (h : wpF (execs cf n (a ++ b) s S) k) : wpF (execs cf n a s S) { k with nx := fun s S => wpF (execs cf n b s S) k } := by
  induction a generalizing s S with
  | nil =>
    simp only [execs]
    exact h
  | cons st a ih =>
    simp only [execs, List.cons_append] at h ⊢
    cases e : exec cf n st s S <;> rw [e] at h <;> first | exact h | exact ih h
theorem s_asg {i : Nat} {e : E} {v : D} {s' : Sl} (h : pv cf S e s = some v) (hs : s.set i (some v) = s') (h2 : wpF (execs cf n rest s' S) k) : wpF (execs cf n (.asg i e :: rest) s S) k := by
  subst hs
  exact wp_cons (wp_asg (pv_ok e s h) h2)
theorem s_ret {e : E} {v : D} (h : pv cf S e s = some v) (h2 : k.rt v S) : wpF (execs cf n (.ret e :: rest) s S) k := by
  refine wp_cons ?_
  simp only [exec]
  exact wpF_eq (pv_ok e s h) h2
theorem s_iff {c : E} {a b u v : List St} {p : Bool} (h : pv cf S c s = some (.bl p)) (ha : a ++ rest = u) (hb : b ++ rest = v) (h1 : p = true → wpF (execs cf n u s S) k) (h2 : p = false → wpF (execs cf n v s S) k) : wpF (execs cf n (.iff c a b :: rest) s S) k := by
  subst ha hb
  exact wp_cons (wp_iff (pv_ok c s h) (fun e => app_execs (h1 e)) fun e => app_execs (h2 e))
theorem s_asgT {is : List Nat} {e : E} {d : D} {ds : List D} {s' : Sl} (h : pv cf S e s = some d) (hi : itemsOf S d = some ds) (hs : setSl is ds s = some s') (h2 : wpF (execs cf n rest s' S) k) : wpF (execs cf n (.asgT is e :: rest) s S) k := by
  refine wp_cons ?_
  simp only [exec]
  refine wpF_eq (pv_ok e s h) ?_
  simp only [hi, hs]
  exact h2
theorem s_par2 {i j : Nat} {a b : E} {x y : D} {s' : Sl} (h1 : pv cf S a s = some x) (h2 : pv cf S b s = some y) (hs : (s.set i (some x)).set j (some y) = s') (h : wpF (execs cf n rest s' S) k) : wpF (execs cf n (.par2 i j a b :: rest) s S) k := by
  subst hs
  refine wp_cons ?_
  simp only [exec]
  exact wpF_eq (pv_ok a s h1) (wpF_eq (pv_ok b s h2) h)
theorem s_par3 {i j l : Nat} {a b c : E} {x y z : D} {s' : Sl} (h1 : pv cf S a s = some x) (h2 : pv cf S b s = some y) (h3 : pv cf S c s = some z) (hs : ((s.set i (some x)).set j (some y)).set l (some z) = s') (h : wpF (execs cf n rest s' S) k) : wpF (execs cf n (.par3 i j l a b c :: rest) s S) k := by
  subst hs
  refine wp_cons ?_
  simp only [exec]
  exact wpF_eq (pv_ok a s h1) (wpF_eq (pv_ok b s h2) (wpF_eq (pv_ok c s h3) h))
theorem st_asg {i : Nat} {e : E} (h : ∃ v, pv cf S e s = some v ∧ wpF (execs cf n rest (s.set i (some v)) S) k) : wpF (execs cf n (.asg i e :: rest) s S) k := by
  obtain ⟨v, e1, h⟩ := h
  exact wp_cons (wp_asg (pv_ok e s e1) h)
theorem st_ret {e : E} (h : ∃ v, pv cf S e s = some v ∧ k.rt v S) : wpF (execs cf n (.ret e :: rest) s S) k := by
  obtain ⟨v, e1, h⟩ := h
  refine wp_cons ?_
  simp only [exec]
  exact wpF_eq (pv_ok e s e1) h
theorem st_iff {c : E} {a b : List St} (h : ∃ p, pv cf S c s = some (.bl p) ∧ (p = true → wpF (execs cf n (a ++ rest) s S) k) ∧ (p = false → wpF (execs cf n (b ++ rest) s S) k)) : wpF (execs cf n (.iff c a b :: rest) s S) k := by
  obtain ⟨p, e1, h1, h2⟩ := h
  refine wp_cons (wp_iff (pv_ok c s e1) (fun e => app_execs (h1 e)) fun e => app_execs (h2 e))
theorem st_asgT {is : List Nat} {e : E} (h : ∃ d ds s', pv cf S e s = some d ∧ itemsOf S d = some ds ∧ setSl is ds s = some s' ∧ wpF (execs cf n rest s' S) k) : wpF (execs cf n (.asgT is e :: rest) s S) k := by
  obtain ⟨d, ds, s', e1, e2, e3, h⟩ := h
  refine wp_cons ?_
  simp only [exec]
  refine wpF_eq (pv_ok e s e1) ?_
  simp only [e2, e3]
  exact h
theorem st_par2 {i j : Nat} {a b : E} (h : ∃ x y, pv cf S a s = some x ∧ pv cf S b s = some y ∧ wpF (execs cf n rest ((s.set i (some x)).set j (some y)) S) k) : wpF (execs cf n (.par2 i j a b :: rest) s S) k := by
  obtain ⟨x, y, e1, e2, h⟩ := h
  refine wp_cons ?_
  simp only [exec]
  exact wpF_eq (pv_ok a s e1) (wpF_eq (pv_ok b s e2) h)
theorem st_end (h : k.nx s S) : wpF (execs cf n [] s S) k := wp_nil h
/-- for .. in ..: the items are told as a list of one's own -/
theorem st_for {α : Type} {tg : Tg} {it : It} {body : List St} {l : List α} {g : α → D} (I : Nat → Sl → Store → Prop) (hit : pvIt cf S it s = some (l.map g)) (hS : ∀ i s S', I i s S' → S' = S) (h0 : I 0 s S)
    (step : ∀ i a s, l[i]? = some a → I i s S → ∃ s1, setTg tg (g a) s = some s1 ∧ wpF (execs cf n body s1 S) { nx := I (i + 1), ct := I (i + 1), bk := fun s S => wpF (execs cf n rest s S) k, rt := k.rt, ex := k.ex })
    (hend : ∀ s, I l.length s S → wpF (execs cf n rest s S) k) : wpF (execs cf n (.for tg it body :: rest) s S) k := by
  obtain ⟨src, e1, e2⟩ := pvIt_ok it s hit
  refine wp_cons (wp_for I e1 (fun i s S' h => by rw [hS i s S' h]; exact e2) h0 ?_ fun s S' h => ?_)
  · intro i d s' S' hd hI
    have := hS i s' S' hI
    subst this
    rw [List.getElem?_map] at hd
    cases e : l[i]? with
    | none => rw [e] at hd; cases hd
    | some a =>
      rw [e] at hd
      cases hd
      exact step i a s' e hI
  · have := hS _ s S' h
    subst this
    rw [List.length_map] at h
    exact hend s h
/-- a call of a def whose body is told -/
theorem call_body {P : List Fn} {n d i : Nat} {f : Fn} {vs : List D} {S : Store} {v : D} (h : P[i]? = some f) (hl : vs.length = f.ps) (hk : f.keep = false) (hv : noRef S.length v = true)
    (hb : wpF (execs (callF P n d) n f.body (vs.map some ++ List.replicate (f.ns - vs.length) none) S) { nx := fun _ S1 => v = .non ∧ S1 = S, rt := fun d S1 => d = v ∧ S1 = S }) : callF P n (d + 1) i vs S = .ok v S :=
  call_pure h hl hk hv (wpF_imp hb (fun _ _ ⟨e, e2⟩ => ⟨e, [], by rw [e2, List.append_nil]⟩) (fun _ _ ⟨e, e2⟩ => ⟨e, [], by rw [e2, List.append_nil]⟩) (fun _ _ z => z) (fun _ _ z => z) fun _ _ _ z => z)
/-- a def of one line -/
theorem call_line {P : List Fn} {n d i : Nat} {f : Fn} {e : E} {vs : List D} {S : Store} {v : D} (h : P[i]? = some f) (hb : f.body = [.ret e]) (hl : vs.length = f.ps) (hk : f.keep = false) (hv : noRef S.length v = true)
    (hv2 : pv (callF P n d) S e (vs.map some ++ List.replicate (f.ns - vs.length) none) = some v) : callF P n (d + 1) i vs S = .ok v S := by
  refine call_body h hl hk hv ?_
  rw [hb]
  exact st_ret ⟨v, hv2, rfl, rfl⟩
end
end DI
end
section
set_option maxRecDepth 100000
set_option maxHeartbeats 1000000
/-! DJ3: rules with closed heads, for the walk by tactics. -/
namespace DI
open PySem
section
variable (cf : Nat → List D → Store → R D) (S : Store)
structure Pv (e : E) (s : Sl) (v : D) : Prop where
  h : pv cf S e s = some v
structure Pvs (es : List E) (s : Sl) (vs : List D) : Prop where
  h : pvs cf S es s = some vs
structure PvO (o : Option E) (s : Sl) (v : Option Int) : Prop where
  h : pvO cf S o s = some v
structure PvA (es : List E) (s : Sl) (v : D) : Prop where
  h : pvAnd cf S es s = some v
structure PvR (es : List E) (s : Sl) (v : D) : Prop where
  h : pvOr cf S es s = some v
structure PvI (it : It) (s : Sl) (ds : List D) : Prop where
  h : pvIt cf S it s = some ds
structure Cl (f : Nat) (vs : List D) (v : D) : Prop where
  h : cf f vs S = .ok v S
structure LBin (op : Operator) (x y v : D) : Prop where
  h : toO (bin op x y S) = some v
structure LCmp (op : CmpOp) (x y v : D) : Prop where
  h : toO (cmp op x y S) = some v
structure LBi (b : Bi) (x v : D) : Prop where
  h : toO (bi b x S) = some v
structure LIx (x y v : D) : Prop where
  h : toO (ixD x y S) = some v
structure LSl (x : D) (l h : Option Int) (v : D) : Prop where
  h : toO (slD x l h S) = some v
structure LRev (x v : D) : Prop where
  h : toO (revD x S) = some v
structure LTy (x : D) (ts : List Ty) (p : Bool) : Prop where
  h : isTys (liveD S x) ts = some p
structure Itm (x : D) (ds : List D) : Prop where
  h : itemsOf S x = some ds
structure Lst (x : D) (ds : List D) : Prop where
  h : listOf S x = some ds
structure QSeq (x : D) (ds : List D) : Prop where
  h : seqO S x = some ds
structure QZip (x y : D) (ds : List D) : Prop where
  h : zipO S x y = some ds
structure QEnum (x : D) (ds : List D) : Prop where
  h : enumO S x = some ds
end
structure Look (s : Sl) (i : Nat) (v : D) : Prop where
  h : s[i]? = some (some v)
structure Small {α : Type} (l : List α) : Prop where
  h : l.length ≤ 16777216
structure Mp {α : Type} (ds : List D) (l : List α) (f : α → D) : Prop where
  h : ds = l.map f
structure Tgs (tg : Tg) (d : D) (own : List Nat) (s s1 : Sl) : Prop where
  h : setTg tg d (wipeD s own) = some s1
structure At {α : Type} (l : List α) (k : Nat) (v : α) : Prop where
  h : l[k]? = some v
structure SetS (s : Sl) (i : Nat) (v : D) (s1 : Sl) : Prop where
  h : s.set i (some v) = s1
structure SetTs (is : List Nat) (ds : List D) (s s1 : Sl) : Prop where
  h : setSl is ds s = some s1
structure App {α : Type} (a b c : List α) : Prop where
  h : a ++ b = c
structure Ints (ds : List D) (l : List Int) : Prop where
  h : ints? ds = some l
structure MulOk (i j : Int) : Prop where
  h : mulOk i j = true
structure DivOk (j : Int) : Prop where
  h : divOk j = true
section
variable {cf : Nat → List D → Store → R D} {S : Store} {s : Sl} {a b c e : E} {es : List E} {x y z v w : D} {p q : Bool} {α : Type}
theorem z_var {i : Nat} (h : Look s i v) : Pv cf S (.var i) s v := ⟨r_var h.h⟩
theorem z_con : Pv cf S (.con v) s v := ⟨r_con⟩
theorem z_bin {op : Operator} (ha : Pv cf S a s x) (hb : Pv cf S b s y) (h : LBin S op x y v) : Pv cf S (.bin op a b) s v := ⟨r_bin ha.h hb.h h.h⟩
theorem z_neg {i : Int} (ha : Pv cf S a s (.int i)) : Pv cf S (.neg a) s (.int (-i)) := ⟨r_neg ha.h⟩
theorem z_not (ha : Pv cf S a s (.bl p)) : Pv cf S (.not a) s (.bl (!p)) := ⟨r_not ha.h⟩
theorem z_cmp {op : CmpOp} (ha : Pv cf S a s x) (hb : Pv cf S b s y) (h : LCmp S op x y v) : Pv cf S (.cmp op a b) s v := ⟨r_cmp ha.h hb.h h.h⟩
theorem z_chn {op op' : CmpOp} (ha : Pv cf S a s x) (hb : Pv cf S b s y) (h : LCmp S op x y (.bl p)) (hc : p = true → Pv cf S c s z) (h2 : p = true → LCmp S op' y z (.bl q)) : Pv cf S (.chn op op' a b c) s (.bl (p && q)) := ⟨r_chn ha.h hb.h h.h (fun e => (hc e).h) fun e => (h2 e).h⟩
theorem z_isIn {ng : Bool} {ds : List D} (ha : Pv cf S a s x) (hb : Pv cf S b s y) (hi : Itm S y ds) (hx : flatD x = true) (hd : ds.all flatD = true) : Pv cf S (.isIn ng a b) s (.bl (if ng then !ds.any (eqF · x) else ds.any (eqF · x))) := ⟨r_isIn ha.h hb.h hi.h hx hd⟩
theorem z_in {ds : List D} (ha : Pv cf S a s x) (hb : Pv cf S b s y) (hi : Itm S y ds) (hx : flatD x = true) (hd : ds.all flatD = true) : Pv cf S (.isIn false a b) s (.bl (ds.any (eqF · x))) := ⟨r_isIn ha.h hb.h hi.h hx hd⟩
theorem z_nin {ds : List D} (ha : Pv cf S a s x) (hb : Pv cf S b s y) (hi : Itm S y ds) (hx : flatD x = true) (hd : ds.all flatD = true) : Pv cf S (.isIn true a b) s (.bl (!ds.any (eqF · x))) := ⟨r_isIn ha.h hb.h hi.h hx hd⟩
theorem z_and (h : PvA cf S es s v) : Pv cf S (.and es) s v := ⟨r_and h.h⟩
theorem z_or (h : PvR cf S es s v) : Pv cf S (.or es) s v := ⟨r_or h.h⟩
theorem z_and1 (h : Pv cf S e s v) : PvA cf S [e] s v := ⟨r_and1 h.h⟩
theorem z_andc {e2 : E} (h : Pv cf S e s (.bl p)) (h2 : p = true → PvA cf S (e2 :: es) s (.bl q)) : PvA cf S (e :: e2 :: es) s (.bl (p && q)) := ⟨r_andc h.h fun e => (h2 e).h⟩
theorem z_or1 (h : Pv cf S e s v) : PvR cf S [e] s v := ⟨r_or1 h.h⟩
theorem z_orc {e2 : E} (h : Pv cf S e s (.bl p)) (h2 : p = false → PvR cf S (e2 :: es) s (.bl q)) : PvR cf S (e :: e2 :: es) s (.bl (p || q)) := ⟨r_orc h.h fun e => (h2 e).h⟩
theorem z_ite (h : Pv cf S c s (.bl p)) (ha : p = true → Pv cf S a s x) (hb : p = false → Pv cf S b s y) : Pv cf S (.ite c a b) s (if p then x else y) := ⟨r_ite h.h (fun e => (ha e).h) fun e => (hb e).h⟩
theorem z_call {f : Nat} {vs : List D} (h : Pvs cf S es s vs) (hc : Cl cf S f vs v) : Pv cf S (.call f es) s v := ⟨r_call h.h hc.h⟩
theorem z_bi {bb : Bi} (ha : Pv cf S a s x) (h : LBi S bb x v) : Pv cf S (.bi bb a) s v := ⟨r_bi ha.h h.h⟩
theorem z_lset {ds : List D} {l : List Int} (ha : Pv cf S a s x) (hx : Lst S x ds) (hi : Ints ds l) (hl : l.length ≤ 4000) : Pv cf S (.lset a) s (.int ((dedup [] l).length : Nat)) := ⟨r_lset ha.h (by rw [hx.h, Option.bind_some, hi.h]) hl⟩
theorem z_isi {ts : List Ty} (ha : Pv cf S a s x) (h : LTy S x ts p) : Pv cf S (.isi a ts) s (.bl p) := ⟨r_isi ha.h h.h⟩
theorem z_ix {i : E} (ha : Pv cf S a s x) (hb : Pv cf S i s y) (h : LIx S x y v) : Pv cf S (.ix a i) s v := ⟨r_ix ha.h hb.h h.h⟩
theorem z_sl {lo hi : Option E} {l h : Option Int} (ha : Pv cf S a s x) (hl : PvO cf S lo s l) (hh : PvO cf S hi s h) (hr : LSl S x l h v) : Pv cf S (.sl a lo hi) s v := ⟨r_sl ha.h hl.h hh.h hr.h⟩
theorem z_none : PvO cf S none s none := ⟨r_none⟩
theorem z_some {i : Int} (h : Pv cf S e s (.int i)) : PvO cf S (some e) s (some i) := ⟨r_some h.h⟩
theorem z_rev (ha : Pv cf S a s x) (h : LRev S x v) : Pv cf S (.rev a) s v := ⟨r_rev ha.h h.h⟩
theorem z_tup {vs : List D} (h : Pvs cf S es s vs) (hl : Small vs) : Pv cf S (.tup es) s (.tup vs) := ⟨r_tup h.h hl.h⟩
theorem z_lst {vs : List D} (h : Pvs cf S es s vs) (hl : Small vs) : Pv cf S (.lst false es) s (.fl vs) := ⟨r_lst h.h hl.h⟩
theorem z_lof {ds : List D} (ha : Pv cf S a s x) (hi : Itm S x ds) (hl : Small ds) : Pv cf S (.lof false a) s (.fl ds) := ⟨r_lof ha.h hi.h hl.h⟩
theorem z_nil : Pvs cf S [] s [] := ⟨r_nil⟩
theorem z_cons {vs : List D} (h : Pv cf S e s v) (h2 : Pvs cf S es s vs) : Pvs cf S (e :: es) s (v :: vs) := ⟨r_cons h.h h2.h⟩
variable {tg : Tg} {it : It} {ifs : List E} {own : List Nat} {ds : List D} {l : List α} {h : α → D} {f1 : α → Sl}
theorem z_comp {g : α → D} (hit : PvI cf S it s ds) (hd : Mp ds l h) (hl : Small l) (hs : ∀ a, a ∈ l → Tgs tg (h a) own s (f1 a)) (hf : ∀ a, a ∈ l → Pv cf S e (f1 a) (g a)) : Pv cf S (.cmph false e tg it [] own) s (.fl (l.map g)) :=
  ⟨r_comp hit.h hd.h hl.h fun a ha => ⟨f1 a, (hs a ha).h, (hf a ha).h⟩⟩
theorem z_compf {t : E} {q : α → Bool} {g : α → D} (hit : PvI cf S it s ds) (hd : Mp ds l h) (hl : Small l) (hs : ∀ a, a ∈ l → Tgs tg (h a) own s (f1 a)) (ht : ∀ a, a ∈ l → Pv cf S t (f1 a) (.bl (q a))) (hf : ∀ a, a ∈ l → q a = true → Pv cf S e (f1 a) (g a)) : Pv cf S (.cmph false e tg it [t] own) s (.fl ((l.filter q).map g)) :=
  ⟨r_compf hit.h hd.h hl.h (fun a ha => ⟨f1 a, (hs a ha).h, (ht a ha).h⟩) fun a ha hq => ⟨f1 a, (hs a ha).h, (hf a ha hq).h⟩⟩
theorem z_seq (ha : Pv cf S a s x) (h : QSeq S x ds) : PvI cf S (.seq a) s ds := ⟨r_seq ha.h h.h⟩
theorem z_rng1 {k : Nat} (ha : Pv cf S a s (.int (k : Int))) (hk : k ≤ 16777216) : PvI cf S (.rng1 a) s ((List.range k).map fun (i : Nat) => D.int (i : Int)) := ⟨r_rng1 ha.h hk⟩
theorem z_rng1' {i : Int} {k : Nat} (ha : Pv cf S a s (.int i)) (e : i = (k : Int)) (hk : k ≤ 16777216) : PvI cf S (.rng1 a) s ((List.range k).map fun (i : Nat) => D.int (i : Int)) := by
  subst e
  exact ⟨r_rng1 ha.h hk⟩
theorem z_rng1l {k : Nat} (hk : (@OfNat.ofNat Nat k (instOfNatNat k)) ≤ 16777216) : PvI cf S (.rng1 (.con (.int (@OfNat.ofNat Int k (@instOfNat k))))) s ((List.range (@OfNat.ofNat Nat k (instOfNatNat k))).map fun (i : Nat) => D.int (i : Int)) := ⟨r_rng1 r_con hk⟩
theorem z_rng2 {i j : Int} {i' j' : Nat} (ha : Pv cf S a s (.int i)) (hb : Pv cf S b s (.int j)) (e1 : i = (i' : Int)) (e2 : j = (j' : Int)) (h1 : i' ≤ 16777216) (h2 : j' ≤ 16777216) : PvI cf S (.rng2 a b) s ((List.range (j' - i')).map fun (t : Nat) => D.int ((i' + t : Nat) : Int)) := ⟨r_rng2 ha.h hb.h e1 e2 h1 h2⟩
theorem z_zip (ha : Pv cf S a s x) (hb : Pv cf S b s y) (h : QZip S x y ds) : PvI cf S (.zip a b) s ds := ⟨r_zip ha.h hb.h h.h⟩
theorem z_enum (ha : Pv cf S a s x) (h : QEnum S x ds) : PvI cf S (.enum a) s ds := ⟨r_enum ha.h h.h⟩
/-! leaves -/
theorem k_add {i j : Int} : LBin S .Add (.int i) (.int j) (.int (i + j)) := ⟨rfl⟩
theorem k_sub {i j : Int} : LBin S .Sub (.int i) (.int j) (.int (i - j)) := ⟨rfl⟩
theorem k_mul {i j : Int} (h : MulOk i j) : LBin S .Mult (.int i) (.int j) (.int (i * j)) := ⟨t_mul h.h⟩
theorem k_fdiv {i j : Int} (h : DivOk j) : LBin S .FloorDiv (.int i) (.int j) (.int (i.fdiv j)) := ⟨t_fdiv h.h⟩
theorem k_mod {i j : Int} (h : j ≠ 0) : LBin S .Mod (.int i) (.int j) (.int (i.fmod j)) := ⟨t_mod h⟩
theorem k_addt {u v : List D} (h : u.length + v.length ≤ 16777216) : LBin S .Add (.tup u) (.tup v) (.tup (u ++ v)) := ⟨t_addt h⟩
theorem k_addl {u v : List D} (h : u.length + v.length ≤ 16777216) : LBin S .Add (.fl u) (.fl v) (.fl (u ++ v)) := ⟨t_addl h⟩
theorem k_lt {i j : Int} : LCmp S .Lt (.int i) (.int j) (.bl (decide (i < j))) := ⟨rfl⟩
theorem k_le {i j : Int} : LCmp S .LtE (.int i) (.int j) (.bl (decide (i ≤ j))) := ⟨rfl⟩
theorem k_gt {i j : Int} : LCmp S .Gt (.int i) (.int j) (.bl (decide (j < i))) := ⟨rfl⟩
theorem k_ge {i j : Int} : LCmp S .GtE (.int i) (.int j) (.bl (decide (j ≤ i))) := ⟨rfl⟩
theorem k_eqi {i j : Int} : LCmp S .Eq (.int i) (.int j) (.bl (decide (i = j))) := ⟨t_eqi⟩
theorem k_nei {i j : Int} : LCmp S .NotEq (.int i) (.int j) (.bl (!decide (i = j))) := ⟨t_nei⟩
theorem k_eqb {i j : Bool} : LCmp S .Eq (.bl i) (.bl j) (.bl (i == j)) := ⟨t_eqb⟩
theorem k_neb {i j : Bool} : LCmp S .NotEq (.bl i) (.bl j) (.bl (!(i == j))) := ⟨t_neb⟩
theorem k_eqp (ha : pd x = true) (hb : pd y = true) (h1 : dep x ≤ 64) (h2 : dep y ≤ 64) : LCmp S .Eq x y (.bl (deq x y)) := ⟨t_eqp ha hb h1 h2⟩
theorem k_nep (ha : pd x = true) (hb : pd y = true) (h1 : dep x ≤ 64) (h2 : dep y ≤ 64) : LCmp S .NotEq x y (.bl (!deq x y)) := ⟨t_nep ha hb h1 h2⟩
theorem k_is : LCmp S .Is x .non (.bl (decide (x = .non))) := ⟨rfl⟩
theorem k_isnt : LCmp S .IsNot x .non (.bl (!decide (x = .non))) := ⟨rfl⟩
theorem k_lent {l : List D} : LBi S .len (.tup l) (.int (l.length : Int)) := ⟨rfl⟩
theorem k_lenl {l : List D} : LBi S .len (.fl l) (.int (l.length : Int)) := ⟨rfl⟩
theorem k_lenk {l : List D} : LBi S .len (.kl l) (.int (l.length : Int)) := ⟨rfl⟩
theorem k_inti {i : Int} : LBi S .int (.int i) (.int i) := ⟨rfl⟩
theorem k_intb {p : Bool} : LBi S .int (.bl p) (.int (if p then 1 else 0)) := ⟨rfl⟩
theorem k_abs {i : Int} : LBi S .abs (.int i) (.int (if i < 0 then -i else i)) := ⟨rfl⟩
theorem k_tupl {l : List D} : LBi S .tuple (.fl l) (.tup l) := ⟨rfl⟩
theorem k_tupt {l : List D} : LBi S .tuple (.tup l) (.tup l) := ⟨rfl⟩
theorem k_all {l : List α} {q : α → Bool} : LBi S .all (.fl (l.map fun a => D.bl (q a))) (.bl (l.all q)) := ⟨t_all⟩
theorem k_any {l : List α} {q : α → Bool} : LBi S .any (.fl (l.map fun a => D.bl (q a))) (.bl (l.any q)) := ⟨t_any⟩
theorem k_suml {l : List D} {m : List Int} (h : Ints l m) : LBi S .sum (.fl l) (.int m.sum) := ⟨by
  unfold bi
  simp only [items_fl, Option.bind_some, h.h, opt_some, toO_ok]⟩
theorem k_sumt {l : List D} {m : List Int} (h : Ints l m) : LBi S .sum (.tup l) (.int m.sum) := ⟨by
  unfold bi
  simp only [items_tup, Option.bind_some, h.h, opt_some, toO_ok]⟩
theorem n_map {l : List α} {q : α → Int} : Ints (l.map fun a => D.int (q a)) (l.map q) := ⟨ints_map⟩
theorem n_nil : Ints [] [] := ⟨rfl⟩
theorem n_cons {i : Int} {ds : List D} {l : List Int} (h : Ints ds l) : Ints (.int i :: ds) (i :: l) := ⟨by simp [ints?, h.h]⟩
theorem k_slt {l : List D} {lo hi : Option Int} : LSl S (.tup l) lo hi (.tup (cutD l lo hi)) := ⟨rfl⟩
theorem k_sll {l : List D} {lo hi : Option Int} : LSl S (.fl l) lo hi (.fl (cutD l lo hi)) := ⟨rfl⟩
theorem k_sltn {l : List D} {k : Nat} : LSl S (.tup l) none (some (k : Int)) (.tup (l.take k)) := ⟨by rw [sl_tup, cut_to]; rfl⟩
theorem k_sltf {l : List D} {k : Nat} : LSl S (.tup l) (some (k : Int)) none (.tup (l.drop k)) := ⟨by rw [sl_tup, cut_from]; rfl⟩
theorem k_slts {l : List D} {k : Nat} : LSl S (.tup l) (some ((k : Int) + 1)) none (.tup (l.drop (k + 1))) := ⟨by rw [sl_tup, show ((k : Int) + 1) = ((k + 1 : Nat) : Int) by omega, cut_from]; rfl⟩
theorem k_sltnl {l : List D} {k : Nat} : LSl S (.tup l) none (some (@OfNat.ofNat Int k (@instOfNat k))) (.tup (l.take (@OfNat.ofNat Nat k (instOfNatNat k)))) := k_sltn
theorem k_sltfl {l : List D} {k : Nat} : LSl S (.tup l) (some (@OfNat.ofNat Int k (@instOfNat k))) none (.tup (l.drop (@OfNat.ofNat Nat k (instOfNatNat k)))) := k_sltf
theorem k_sltm {l : List D} : LSl S (.tup l) none (some (-1)) (.tup l.dropLast) := ⟨by rw [sl_tup, cut_to1n]; rfl⟩
theorem a_getD {l : List D} {k : Nat} (h : k < l.length) : At l k (l.getD k .non) := ⟨by rw [List.getD_eq_getElem?_getD, List.getElem?_eq_getElem h]; rfl⟩
theorem k_revt {l : List D} : LRev S (.tup l) (.tup l.reverse) := ⟨rfl⟩
theorem k_revl {l : List D} : LRev S (.fl l) (.fl l.reverse) := ⟨rfl⟩
theorem k_ixt {l : List D} {k : Nat} (h : At l k v) : LIx S (.tup l) (.int (k : Int)) v := ⟨t_ixt h.h⟩
theorem k_ixtl {l : List D} {k : Nat} (h : At l (@OfNat.ofNat Nat k (instOfNatNat k)) v) : LIx S (.tup l) (.int (@OfNat.ofNat Int k (@instOfNat k))) v := ⟨t_ixt h.h⟩
theorem k_ixl {l : List D} {k : Nat} (h : At l k v) : LIx S (.fl l) (.int (k : Int)) v := ⟨t_ixl h.h⟩
theorem k_ixll {l : List D} {k : Nat} (h : At l (@OfNat.ofNat Nat k (instOfNatNat k)) v) : LIx S (.fl l) (.int (@OfNat.ofNat Int k (@instOfNat k))) v := ⟨t_ixl h.h⟩
theorem a_map {l : List α} {f : α → D} {k : Nat} {a : α} (h : At l k a) : At (l.map f) k (f a) := ⟨g_map h.h⟩
theorem a_rng {n k : Nat} (h : k < n) : At (List.range n) k k := ⟨g_rng h⟩
theorem a_0 {l : List α} {a : α} : At (a :: l) 0 a := ⟨rfl⟩
theorem a_1 {l : List α} {a b : α} : At (a :: b :: l) 1 b := ⟨rfl⟩
theorem a_2 {l : List α} {a b c : α} : At (a :: b :: c :: l) 2 c := ⟨rfl⟩
theorem a_3 {l : List α} {a b c d : α} : At (a :: b :: c :: d :: l) 3 d := ⟨rfl⟩
theorem a_4 {l : List α} {a b c d e : α} : At (a :: b :: c :: d :: e :: l) 4 e := ⟨rfl⟩
theorem a_s {l : List α} {a b : α} {k : Nat} (h : At l k b) : At (a :: l) (k + 1) b := ⟨h.h⟩
theorem l_seq {l : List D} : QSeq S (.tup l) l := ⟨rfl⟩
theorem l_seql {l : List D} : QSeq S (.fl l) l := ⟨rfl⟩
theorem l_seqk {l : List D} : QSeq S (.kl l) l := ⟨rfl⟩
theorem l_itm {l : List D} : Itm S (.tup l) l := ⟨rfl⟩
theorem l_itml {l : List D} : Itm S (.fl l) l := ⟨rfl⟩
theorem l_lst {l : List D} : Lst S (.fl l) l := ⟨rfl⟩
theorem l_zip {l m : List D} : QZip S (.tup l) (.tup m) (List.zipWith (fun p q => D.tup [p, q]) l m) := ⟨rfl⟩
theorem l_zipl {l m : List D} : QZip S (.fl l) (.fl m) (List.zipWith (fun p q => D.tup [p, q]) l m) := ⟨rfl⟩
theorem l_enum {l : List D} : QEnum S (.tup l) (l.zipIdx.map fun p => D.tup [D.int (p.2 : Nat), p.1]) := ⟨rfl⟩
theorem l_enuml {l : List D} : QEnum S (.fl l) (l.zipIdx.map fun p => D.tup [D.int (p.2 : Nat), p.1]) := ⟨rfl⟩
theorem l_map {l : List α} {f : α → D} : Mp (l.map f) l f := ⟨rfl⟩
theorem l_zt {l : List α} {g : α → D} {h : α → D} : Mp (List.zipWith (fun p q => D.tup [p, q]) (l.map g) (l.map h)) l (fun a => D.tup [g a, h a]) := ⟨by
  induction l with
  | nil => rfl
  | cons a l ih => simp only [List.map_cons, List.zipWith_cons_cons, ih]⟩
theorem l_id {l : List D} : Mp l l fun d => d := ⟨l_self l⟩
theorem y_tup {l : List D} {ts : List Ty} {p : Bool} (h : ts.any (fun t => decide (t = .tuple)) = p) : LTy S (.tup l) ts p := ⟨by
  subst h
  rw [live_tup]
  induction ts with
  | nil => rfl
  | cons t ts ih => rw [isTys_cons, isTy_tup, ih, tyOr_some, List.any_cons]⟩
theorem y_fl {l : List D} {ts : List Ty} {p : Bool} (h : ts.any (fun t => decide (t = .list)) = p) : LTy S (.fl l) ts p := ⟨by
  subst h
  rw [live_fl]
  induction ts with
  | nil => rfl
  | cons t ts ih => rw [isTys_cons, isTy_fl, ih, tyOr_some, List.any_cons]⟩
theorem y_kl {l : List D} {ts : List Ty} {p : Bool} (h : ts.any (fun t => decide (t = .list)) = p) : LTy S (.kl l) ts p := ⟨by
  subst h
  rw [live_kl]
  induction ts with
  | nil => rfl
  | cons t ts ih => rw [isTys_cons, isTy_kl, ih, tyOr_some, List.any_cons]⟩
theorem y_int {l : Int} {ts : List Ty} {p : Bool} (h : ts.any (fun t => decide (t = .int)) = p) : LTy S (.int l) ts p := ⟨by
  subst h
  rw [live_int]
  induction ts with
  | nil => rfl
  | cons t ts ih => rw [isTys_cons, isTy_int, ih, tyOr_some, List.any_cons]⟩
theorem y_bl {l : Bool} {ts : List Ty} {p : Bool} (h : ts.any (fun t => decide (t = .int) || decide (t = .bool)) = p) : LTy S (.bl l) ts p := ⟨by
  subst h
  rw [live_bl]
  induction ts with
  | nil => rfl
  | cons t ts ih => rw [isTys_cons, isTy_bl, ih, tyOr_some, List.any_cons]⟩
theorem y_str {l : List Nat} {ts : List Ty} {p : Bool} (h : ts.any (fun t => decide (t = .str)) = p) : LTy S (.str l) ts p := ⟨by
  subst h
  rw [live_str]
  induction ts with
  | nil => rfl
  | cons t ts ih => rw [isTys_cons, isTy_str, ih, tyOr_some, List.any_cons]⟩
theorem y_non {ts : List Ty} : LTy S .non ts false := ⟨by
  rw [live_non]
  induction ts with
  | nil => rfl
  | cons t ts ih => rw [isTys_cons, isTy_non, ih, tyOr_some]; rfl⟩
theorem y_any {ts : List Ty} (h : pd x = true) : LTy S x ts (ts.any fun t => isTyB x t) := ⟨by
  rw [liveD_pd h]
  induction ts with
  | nil => rfl
  | cons t ts ih => rw [isTys_cons, isTy_pd h, ih, tyOr_some, List.any_cons]⟩
theorem y_one {t : Ty} (h : pd x = true) : LTy S x [t] (isTyB x t) := ⟨y_pd h⟩
theorem y_two {t u : Ty} (h : pd x = true) : LTy S x [t, u] (isTyB x t || isTyB x u) := ⟨y_pd2 h⟩
theorem m_l {i j : Int} (h : i.natAbs < 1048576) : MulOk i j := ⟨mulOk_l h⟩
theorem m_r {i j : Int} (h : j.natAbs < 1048576) : MulOk i j := ⟨mulOk_rr h⟩
theorem d_s {j : Int} (h : j ≠ 0) (h2 : j.natAbs < 1073741824) : DivOk j := ⟨divOk_s h h2⟩
end
/-! statements -/
/-- a text does what is wanted -/
structure W (cf : Nat → List D → Store → R D) (n : Nat) (sts : List St) (s : Sl) (S : Store) (k : Kt) : Prop where
  h : wpF (execs cf n sts s S) k
/-- an expression (one that may change the store) does what is wanted -/
structure WE (cf : Nat → List D → Store → R D) (e : E) (s : Sl) (S : Store) (Q : D → Store → Prop) (X : Nat → List (List Nat × D) → Store → Prop) : Prop where
  h : wpX (evalE cf e s S) Q X
section
variable {cf : Nat → List D → Store → R D} {n : Nat} {s s' : Sl} {S S1 : Store} {k : Kt} {rest : List St} {x y z v : D}
theorem wpX_of {α : Type} {r : R α} {Q : α → Store → Prop} {X : Nat → List (List Nat × D) → Store → Prop} (h : wpR r Q) : wpX r Q X := by
  cases r with
  | ok a S => exact h
  | _ => exact h.elim
theorem wpF_bindX {α : Type} {r : R α} {f : α → Store → F} {s : Sl} (h : wpX r (fun a S => wpF (f a S) k) k.ex) : wpF (bindF r s f) k := by
  cases r with
  | ok a S => exact h
  | ex c pl S => exact h
  | no => exact h.elim
theorem w_asg {i : Nat} {e : E} (h : Pv cf S e s v) (hs : SetS s i v s') (h2 : W cf n rest s' S k) : W cf n (.asg i e :: rest) s S k := ⟨s_asg h.h hs.h h2.h⟩
/-- an assignment whose value changes the store -/
theorem w_asgX {i : Nat} {e : E} (h : WE cf e s S (fun v S1 => W cf n rest (s.set i (some v)) S1 k) k.ex) : W cf n (.asg i e :: rest) s S k := ⟨by
  refine wp_cons ?_
  simp only [exec]
  refine wpF_bindX ?_
  have := h.h
  cases e : evalE cf e s S <;> rw [e] at this <;> first | exact this.h | exact this⟩
theorem w_exX {e : E} (h : WE cf e s S (fun v S1 => W cf n rest s S1 k) k.ex) : W cf n (.ex e :: rest) s S k := ⟨by
  refine wp_cons ?_
  simp only [exec]
  refine wpF_bindX ?_
  have := h.h
  cases e : evalE cf e s S <;> rw [e] at this <;> first | exact this.h | exact this⟩
theorem w_retX {e : E} (h : WE cf e s S k.rt k.ex) : W cf n (.ret e :: rest) s S k := ⟨by
  refine wp_cons ?_
  simp only [exec]
  refine wpF_bindX ?_
  have := h.h
  cases e : evalE cf e s S <;> rw [e] at this <;> exact this⟩
theorem w_iffX {c : E} {a b u v : List St} (ha : App a rest u) (hb : App b rest v) (h : WE cf c s S (fun d S1 => ∃ p, d = .bl p ∧ (p = true → W cf n u s S1 k) ∧ (p = false → W cf n v s S1 k)) k.ex) : W cf n (.iff c a b :: rest) s S k := ⟨by
  refine wp_cons ?_
  simp only [exec]
  refine wpF_bindX ?_
  have := h.h
  have e1 := ha.h
  have e2 := hb.h
  subst e1 e2
  cases e : evalE cf c s S <;> rw [e] at this
  · obtain ⟨p, rfl, h1, h2⟩ := this
    cases p with
    | true => exact app_execs (h1 rfl).h
    | false => exact app_execs (h2 rfl).h
  · exact this
  · exact this⟩
theorem w_ret {e : E} (h : Pv cf S e s v) (h2 : k.rt v S) : W cf n (.ret e :: rest) s S k := ⟨s_ret h.h h2⟩
theorem w_retN (h2 : k.rt .non S) : W cf n (.retN :: rest) s S k := ⟨by
  refine wp_cons ?_
  simp only [exec]
  exact h2⟩
theorem w_iff {c : E} {a b u v : List St} {p : Bool} (h : Pv cf S c s (.bl p)) (ha : App a rest u) (hb : App b rest v) (h1 : p = true → W cf n u s S k) (h2 : p = false → W cf n v s S k) : W cf n (.iff c a b :: rest) s S k := ⟨s_iff h.h ha.h hb.h (fun e => (h1 e).h) fun e => (h2 e).h⟩
theorem w_asgT {is : List Nat} {e : E} {d : D} {ds : List D} (h : Pv cf S e s d) (hi : Itm S d ds) (hs : SetTs is ds s s') (h2 : W cf n rest s' S k) : W cf n (.asgT is e :: rest) s S k := ⟨s_asgT h.h hi.h hs.h h2.h⟩
theorem w_par2 {i j : Nat} {a b : E} {s1 : Sl} (h1 : Pv cf S a s x) (h2 : Pv cf S b s y) (hs : SetS s i x s1) (hs2 : SetS s1 j y s') (h : W cf n rest s' S k) : W cf n (.par2 i j a b :: rest) s S k := ⟨s_par2 h1.h h2.h (by rw [hs.h, hs2.h]) h.h⟩
theorem w_par3 {i j l : Nat} {a b c : E} {s1 s2 : Sl} (h1 : Pv cf S a s x) (h2 : Pv cf S b s y) (h3 : Pv cf S c s z) (hs : SetS s i x s1) (hs2 : SetS s1 j y s2) (hs3 : SetS s2 l z s') (h : W cf n rest s' S k) : W cf n (.par3 i j l a b c :: rest) s S k := ⟨s_par3 h1.h h2.h h3.h (by rw [hs.h, hs2.h, hs3.h]) h.h⟩
/-- one turn of a loop -/
structure Turn (cf : Nat → List D → Store → R D) (n : Nat) (tg : Tg) (d : D) (body : List St) (s : Sl) (S : Store) (k : Kt) : Prop where
  h : ∃ s1, setTg tg d s = some s1 ∧ wpF (execs cf n body s1 S) k
theorem w_turn {tg : Tg} {d : D} {body : List St} {s1 : Sl} (h : Tgs tg d [] s s1) (h2 : W cf n body s1 S k) : Turn cf n tg d body s S k := ⟨s1, h.h, h2.h⟩
theorem w_for {α : Type} {tg : Tg} {it : It} {body : List St} {ds : List D} {l : List α} {g : α → D} (I : Nat → Sl → Prop) (hit : PvI cf S it s ds) (hm : Mp ds l g) (h0 : I 0 s)
    (step : ∀ i a s, l[i]? = some a → I i s → Turn cf n tg (g a) body s S { nx := fun s S' => S' = S ∧ I (i + 1) s, ct := fun s S' => S' = S ∧ I (i + 1) s, bk := fun s S => W cf n rest s S k, rt := k.rt, ex := k.ex })
    (hend : ∀ s, I l.length s → W cf n rest s S k) : W cf n (.for tg it body :: rest) s S k := ⟨by
  have e := hm.h
  subst e
  refine st_for (fun i s S' => S' = S ∧ I i s) hit.h (fun i s S' h => h.1) ⟨rfl, h0⟩ (fun i a s' ha hI => ?_) fun s' h => (hend s' h.2).h
  obtain ⟨s1, e1, h⟩ := (step i a s' ha hI.2).h
  exact ⟨s1, e1, wpF_imp h (fun _ _ h => h) (fun _ _ h => h) (fun _ _ h => h.h) (fun _ _ h => h) fun _ _ _ h => h⟩⟩
/-- for over a range -/
theorem w_forr {tg : Tg} {it : It} {body : List St} {ds : List D} {m : Nat} {g : Nat → D} (I : Nat → Sl → Prop) (hit : PvI cf S it s ds) (hm : Mp ds (List.range m) g) (h0 : I 0 s)
    (step : ∀ i s, i < m → I i s → Turn cf n tg (g i) body s S { nx := fun s S' => S' = S ∧ I (i + 1) s, ct := fun s S' => S' = S ∧ I (i + 1) s, bk := fun s S => W cf n rest s S k, rt := k.rt, ex := k.ex })
    (hend : ∀ s, I m s → W cf n rest s S k) : W cf n (.for tg it body :: rest) s S k := by
  refine w_for I hit hm h0 (fun i a s ha hI => ?_) fun s h => hend s (by rw [List.length_range] at h; exact h)
  have hi : i < m := by
    have := (List.getElem?_eq_some_iff.mp ha).1
    rwa [List.length_range] at this
  rw [List.getElem?_range hi] at ha
  cases ha
  exact step i s hi hI
theorem w_end (h : k.nx s S) : W cf n [] s S k := ⟨wp_nil h⟩
theorem w_brk (h : k.bk s S) : W cf n (.brk :: rest) s S k := ⟨by
  refine wp_cons ?_
  simp only [exec]
  exact h⟩
theorem w_cnt (h : k.ct s S) : W cf n (.cnt :: rest) s S k := ⟨by
  refine wp_cons ?_
  simp only [exec]
  exact h⟩
theorem w_pass (h : W cf n rest s S k) : W cf n (.pass :: rest) s S k := ⟨by
  refine wp_cons ?_
  simp only [exec]
  exact h.h⟩
/-- how a call begins -/
structure Begin (f : Fn) (vs : List D) (b : List St) (s : Sl) : Prop where
  hl : vs.length = f.ps
  hb : f.body = b
  hs : vs.map some ++ List.replicate (f.ns - vs.length) none = s
theorem c_ret {P : List Fn} {n d i : Nat} {f : Fn} {vs : List D} {S : Store} {v : D} {b : List St} (h : P[i]? = some f) (hk : f.keep = false) (hg : Begin f vs b s) (hv : noRef S.length v = true)
    (hb : W (callF P n d) n b s S { nx := fun _ S1 => v = .non ∧ S1 = S, rt := fun d S1 => d = v ∧ S1 = S }) : Cl (callF P n (d + 1)) S i vs v := ⟨call_body h hg.hl hk hv (by rw [hg.hb, hg.hs]; exact hb.h)⟩
end
end DI
end
section
set_option maxRecDepth 100000
set_option maxHeartbeats 1000000
/-! DJ4: texts that change the draws' state, or raise. -/
namespace DI
open PySem
/-- the draws' state stands at 0, R behind it -/
def StT (R S : Store) : Prop := ∃ u t : Int, 0 ≤ u ∧ 0 ≤ t ∧ S = .lst [.int u, .int t] :: R
/-- a call does what is wanted -/
structure WC (cf : Nat → List D → Store → R D) (f : Nat) (vs : List D) (S : Store) (Q : D → Store → Prop) (X : Nat → List (List Nat × D) → Store → Prop) : Prop where
  h : wpX (cf f vs S) Q X
structure WEs (cf : Nat → List D → Store → R D) (es : List E) (s : Sl) (S : Store) (Q : List D → Store → Prop) (X : Nat → List (List Nat × D) → Store → Prop) : Prop where
  h : wpX (evalEs cf es s S) Q X
structure WEA (cf : Nat → List D → Store → R D) (es : List E) (s : Sl) (S : Store) (Q : D → Store → Prop) (X : Nat → List (List Nat × D) → Store → Prop) : Prop where
  h : wpX (evalAnd cf es s S) Q X
structure WER (cf : Nat → List D → Store → R D) (es : List E) (s : Sl) (S : Store) (Q : D → Store → Prop) (X : Nat → List (List Nat × D) → Store → Prop) : Prop where
  h : wpX (evalOr cf es s S) Q X
/-- the test of a comprehension -/
structure WEi (cf : Nat → List D → Store → R D) (es : List E) (s : Sl) (S : Store) (Q : Bool → Store → Prop) : Prop where
  h : wpR (evalIfs cf es s S) Q
/-- what is walked stays the same -/
structure PvS (cf : Nat → List D → Store → R D) (S : Store) (it : It) (s : Sl) (ds : List D) : Prop where
  h : ∃ src, evalIt cf it s S = .ok src S ∧ src.still = true ∧ itemsS S src = some ds
section
variable {cf : Nat → List D → Store → R D} {S : Store} {s : Sl} {a b c e : E} {es : List E} {x y z v w : D} {p q : Bool} {α : Type} {Q : D → Store → Prop} {Qs : List D → Store → Prop} {X : Nat → List (List Nat × D) → Store → Prop} {k : Kt} {rest : List St} {n : Nat}
theorem wpX_bind {α β : Type} {r : R α} {f : α → Store → R β} {Q : β → Store → Prop} (h : wpX r (fun a S => wpX (f a S) Q X) X) : wpX (r.bind f) Q X := by
  cases r with
  | ok a S => exact h
  | ex c pl S => exact h
  | no => exact h.elim
theorem wpX_imp {α : Type} {r : R α} {Q Q' : α → Store → Prop} {X X' : Nat → List (List Nat × D) → Store → Prop} (h : wpX r Q X) (hq : ∀ a S, Q a S → Q' a S) (hx : ∀ c pl S, X c pl S → X' c pl S) : wpX r Q' X' := by
  cases r with
  | ok a S => exact hq _ _ h
  | ex c pl S => exact hx _ _ _ h
  | no => exact h.elim
theorem wpX_ok {α : Type} {r : R α} {a : α} {S : Store} {Q : α → Store → Prop} (e : r = .ok a S) (h : Q a S) : wpX r Q X := by rw [e]; exact h
theorem e_pure (h : Pv cf S e s v) (hq : Q v S) : WE cf e s S Q X := ⟨wpX_ok (pv_ok e s h.h) hq⟩
theorem e_bin {op : Operator} (h : WE cf a s S (fun x S1 => WE cf b s S1 (fun y S2 => ∃ v, LBin S2 op x y v ∧ Q v S2) X) X) : WE cf (.bin op a b) s S Q X := ⟨by
  simp only [evalE]
  refine wpX_bind (wpX_imp h.h (fun x S1 h1 => wpX_bind (wpX_imp h1.h (fun y S2 ⟨v, h2, h3⟩ => wpX_ok (toO_eq k_bin h2.h) h3) fun _ _ _ z => z)) fun _ _ _ z => z)⟩
theorem e_cmp {op : CmpOp} (h : WE cf a s S (fun x S1 => WE cf b s S1 (fun y S2 => ∃ v, LCmp S2 op x y v ∧ Q v S2) X) X) : WE cf (.cmp op a b) s S Q X := ⟨by
  simp only [evalE]
  refine wpX_bind (wpX_imp h.h (fun x S1 h1 => wpX_bind (wpX_imp h1.h (fun y S2 ⟨v, h2, h3⟩ => wpX_ok (toO_eq k_cmp h2.h) h3) fun _ _ _ z => z)) fun _ _ _ z => z)⟩
theorem e_ix (h : WE cf a s S (fun x S1 => WE cf b s S1 (fun y S2 => ∃ v, LIx S2 x y v ∧ Q v S2) X) X) : WE cf (.ix a b) s S Q X := ⟨by
  simp only [evalE]
  refine wpX_bind (wpX_imp h.h (fun x S1 h1 => wpX_bind (wpX_imp h1.h (fun y S2 ⟨v, h2, h3⟩ => wpX_ok (toO_eq k_ix h2.h) h3) fun _ _ _ z => z)) fun _ _ _ z => z)⟩
theorem e_bi {bb : Bi} (h : WE cf a s S (fun x S1 => ∃ v, LBi S1 bb x v ∧ Q v S1) X) : WE cf (.bi bb a) s S Q X := ⟨by
  simp only [evalE]
  exact wpX_bind (wpX_imp h.h (fun x S1 ⟨v, h2, h3⟩ => wpX_ok (toO_eq k_bi h2.h) h3) fun _ _ _ z => z)⟩
theorem e_not (h : WE cf a s S (fun x S1 => ∃ p, x = .bl p ∧ Q (.bl (!p)) S1) X) : WE cf (.not a) s S Q X := ⟨by
  simp only [evalE]
  refine wpX_bind (wpX_imp h.h (fun x S1 h1 => ?_) fun _ _ _ z => z)
  obtain ⟨p, rfl, h2⟩ := h1
  exact h2⟩
theorem e_ite (h : WE cf c s S (fun x S1 => ∃ p, x = .bl p ∧ (p = true → WE cf a s S1 Q X) ∧ (p = false → WE cf b s S1 Q X)) X) : WE cf (.ite c a b) s S Q X := ⟨by
  simp only [evalE]
  refine wpX_bind (wpX_imp h.h (fun x S1 h1 => ?_) fun _ _ _ z => z)
  obtain ⟨p, rfl, h2, h3⟩ := h1
  cases p with
  | true => exact (h2 rfl).h
  | false => exact (h3 rfl).h⟩
theorem e_call {f : Nat} (h : WEs cf es s S (fun vs S1 => WC cf f vs S1 Q X) X) : WE cf (.call f es) s S Q X := ⟨by
  simp only [evalE]
  exact wpX_bind (wpX_imp h.h (fun vs S1 h1 => h1.h) fun _ _ _ z => z)⟩
theorem e_tup (h : WEs cf es s S (fun vs S1 => Small vs ∧ Q (.tup vs) S1) X) : WE cf (.tup es) s S Q X := ⟨by
  simp only [evalE]
  exact wpX_bind (wpX_imp h.h (fun vs S1 h1 => wpX_ok (by unfold mkT; exact if_pos h1.1.h) h1.2) fun _ _ _ z => z)⟩
theorem e_lst (h : WEs cf es s S (fun vs S1 => Small vs ∧ Q (.fl vs) S1) X) : WE cf (.lst false es) s S Q X := ⟨by
  simp only [evalE]
  exact wpX_bind (wpX_imp h.h (fun vs S1 h1 => wpX_ok (by unfold mk; exact if_pos h1.1.h) h1.2) fun _ _ _ z => z)⟩
/-- a list that is changed later -/
theorem e_new (h : WEs cf es s S (fun vs S1 => Small vs ∧ Q (.lst S1.length) (S1 ++ [.lst vs])) X) : WE cf (.lst true es) s S Q X := ⟨by
  simp only [evalE]
  exact wpX_bind (wpX_imp h.h (fun vs S1 h1 => wpX_ok (by unfold mk; exact if_pos h1.1.h) h1.2) fun _ _ _ z => z)⟩
theorem e_pures {vs : List D} (h : Pvs cf S es s vs) (hq : Qs vs S) : WEs cf es s S Qs X := ⟨wpX_ok (pvs_ok es s h.h) hq⟩
theorem e_nil (hq : Qs [] S) : WEs cf [] s S Qs X := ⟨by
  simp only [evalEs]
  exact hq⟩
theorem e_cons (h : WE cf e s S (fun v S1 => WEs cf es s S1 (fun vs S2 => Qs (v :: vs) S2) X) X) : WEs cf (e :: es) s S Qs X := ⟨by
  simp only [evalEs]
  exact wpX_bind (wpX_imp h.h (fun v S1 h1 => wpX_bind (wpX_imp h1.h (fun vs S2 h2 => h2) fun _ _ _ z => z)) fun _ _ _ z => z)⟩
theorem e_and (h : WEA cf es s S Q X) : WE cf (.and es) s S Q X := ⟨by
  simp only [evalE]
  exact h.h⟩
theorem e_or (h : WER cf es s S Q X) : WE cf (.or es) s S Q X := ⟨by
  simp only [evalE]
  exact h.h⟩
theorem e_and1 (h : WE cf e s S Q X) : WEA cf [e] s S Q X := ⟨by
  simp only [evalAnd]
  exact h.h⟩
theorem e_or1 (h : WE cf e s S Q X) : WER cf [e] s S Q X := ⟨by
  simp only [evalOr]
  exact h.h⟩
theorem e_andc {e2 : E} (h : WE cf e s S (fun x S1 => ∃ p, x = .bl p ∧ (p = true → WEA cf (e2 :: es) s S1 Q X) ∧ (p = false → Q (.bl false) S1)) X) : WEA cf (e :: e2 :: es) s S Q X := ⟨by
  simp only [evalAnd]
  refine wpX_bind (wpX_imp h.h (fun x S1 h1 => ?_) fun _ _ _ z => z)
  obtain ⟨p, rfl, h2, h3⟩ := h1
  cases p with
  | true => exact (h2 rfl).h
  | false => exact h3 rfl⟩
theorem e_orc {e2 : E} (h : WE cf e s S (fun x S1 => ∃ p, x = .bl p ∧ (p = false → WER cf (e2 :: es) s S1 Q X) ∧ (p = true → Q (.bl true) S1)) X) : WER cf (e :: e2 :: es) s S Q X := ⟨by
  simp only [evalOr]
  refine wpX_bind (wpX_imp h.h (fun x S1 h1 => ?_) fun _ _ _ z => z)
  obtain ⟨p, rfl, h2, h3⟩ := h1
  cases p with
  | true => exact h3 rfl
  | false => exact (h2 rfl).h⟩
theorem i_nil {Q : Bool → Store → Prop} (h : Q true S) : WEi cf [] s S Q := ⟨by
  simp only [evalIfs]
  exact h⟩
theorem i_one {Q : Bool → Store → Prop} (h : WE cf e s S (fun x S1 => ∃ p, x = .bl p ∧ Q p S1) (fun _ _ _ => False)) : WEi cf [e] s S Q := ⟨by
  simp only [evalIfs]
  have := h.h
  cases he : evalE cf e s S with
  | ok v S1 =>
    rw [he] at this
    obtain ⟨p, rfl, h2⟩ := this
    exact h2
  | ex c pl S1 => rw [he] at this; exact this.elim
  | no => rw [he] at this; exact this.elim⟩
theorem sx_pure {f : Nat} {vs : List D} (h : Cl cf S f vs v) (hq : Q v S) : WC cf f vs S Q X := ⟨wpX_ok h.h hq⟩
/-! what is walked -/
variable {ds : List D} {it : It} {tg : Tg} {own : List Nat} {ifs : List E}
theorem j_rng1 {m : Nat} (ha : Pv cf S a s (.int (m : Int))) (hk : m ≤ 16777216) : PvS cf S (.rng1 a) s ((List.range m).map fun (i : Nat) => D.int (i : Int)) := ⟨.rng 0 m, it_rng (pv_ok a s ha.h) hk, rfl, it_rng_items⟩
theorem j_rng1l {k : Nat} (hk : (@OfNat.ofNat Nat k (instOfNatNat k)) ≤ 16777216) : PvS cf S (.rng1 (.con (.int (@OfNat.ofNat Int k (@instOfNat k))))) s ((List.range (@OfNat.ofNat Nat k (instOfNatNat k))).map fun (i : Nat) => D.int (i : Int)) := j_rng1 (m := k) z_con hk
theorem j_tup (ha : Pv cf S a s (.tup ds)) : PvS cf S (.seq a) s ds := ⟨.imm true ds, it_seq (pv_ok a s ha.h), rfl, rfl⟩
theorem j_fl (ha : Pv cf S a s (.fl ds)) : PvS cf S (.seq a) s ds := ⟨.imm false ds, it_seql (pv_ok a s ha.h), rfl, rfl⟩
/-- a comprehension whose turns change the state: what holds of its items -/
theorem e_comp {I : Store → Prop} {G : D → Prop} (hit : PvS cf S it s ds) (hl : Small ds) (h0 : I S)
    (step : ∀ d S, d ∈ ds → I S → ∃ s1, setTg tg d (wipeD s own) = some s1 ∧ WEi cf ifs s1 S fun b S1 => (b = false → I S1) ∧ (b = true → WE cf e s1 S1 (fun v S2 => I S2 ∧ G v) fun _ _ _ => False))
    (hq : ∀ acc S, I S → (∀ x, x ∈ acc → G x) → acc.length ≤ ds.length → Q (.fl acc) S) : WE cf (.cmph false e tg it ifs own) s S Q X := ⟨by
  obtain ⟨src, e1, e2, e3⟩ := hit.h
  have hs : ∀ S', itemsS S' src = some ds := fun S' => by rw [still_items S' S e2]; exact e3
  refine wpX_of (cmph_wp (src := src) (fun i acc S => I S ∧ (∀ x, x ∈ acc → G x) ∧ acc.length ≤ i) e1 (fun _ _ S' _ => hs S') hl.h ⟨h0, by simp, Nat.zero_le _⟩ ?_ ?_)
  · intro i d acc S hd ⟨hI, hG, hL⟩
    obtain ⟨s1, e4, h⟩ := step d S (List.mem_of_getElem? hd) hI
    refine ⟨s1, e4, wpR_imp h.h fun b S1 hb => ?_⟩
    cases b with
    | false =>
      rw [if_neg Bool.false_ne_true]
      exact ⟨hb.1 rfl, hG, by omega⟩
    | true =>
      rw [if_pos rfl]
      have := (hb.2 rfl).h
      cases he : evalE cf e s1 S1 with
      | ok v S2 =>
        rw [he] at this
        refine ⟨this.1, fun x hx => ?_, by simp; omega⟩
        rcases List.mem_append.mp hx with hx | hx
        · exact hG x hx
        · rw [List.mem_singleton.mp hx]; exact this.2
      | ex c pl S2 => rw [he] at this; exact this.elim
      | no => rw [he] at this; exact this.elim
  · intro acc S hI
    exact hq acc S hI.1 hI.2.1 hI.2.2⟩
/-- one without tests has an item for each turn -/
theorem e_compN {I : Store → Prop} {G : D → Prop} (hit : PvS cf S it s ds) (hl : Small ds) (h0 : I S)
    (step : ∀ d S, d ∈ ds → I S → ∃ s1, setTg tg d (wipeD s own) = some s1 ∧ WE cf e s1 S (fun v S2 => I S2 ∧ G v) fun _ _ _ => False)
    (hq : ∀ acc S, I S → (∀ x, x ∈ acc → G x) → acc.length = ds.length → Q (.fl acc) S) : WE cf (.cmph false e tg it [] own) s S Q X := ⟨by
  obtain ⟨src, e1, e2, e3⟩ := hit.h
  have hs : ∀ S', itemsS S' src = some ds := fun S' => by rw [still_items S' S e2]; exact e3
  refine wpX_of (cmph_wp (src := src) (fun i acc S => I S ∧ (∀ x, x ∈ acc → G x) ∧ acc.length = i) e1 (fun _ _ S' _ => hs S') hl.h ⟨h0, by simp, rfl⟩ ?_ ?_)
  · intro i d acc S hd ⟨hI, hG, hL⟩
    obtain ⟨s1, e4, h⟩ := step d S (List.mem_of_getElem? hd) hI
    refine ⟨s1, e4, ?_⟩
    simp only [evalIfs]
    show wpR (evalE cf e s1 S) fun y S2 => I S2 ∧ (∀ x, x ∈ acc ++ [y] → G x) ∧ (acc ++ [y]).length = i + 1
    have := h.h
    cases he : evalE cf e s1 S with
    | ok v S2 =>
      rw [he] at this
      refine ⟨this.1, fun x hx => ?_, by simp; omega⟩
      rcases List.mem_append.mp hx with hx | hx
      · exact hG x hx
      · rw [List.mem_singleton.mp hx]; exact this.2
    | ex c pl S2 => rw [he] at this; exact this.elim
    | no => rw [he] at this; exact this.elim
  · intro acc S hI
    exact hq acc S hI.1 hI.2.1 hI.2.2⟩
/-- a comprehension over a list that is made by draws -/
theorem e_seqc {g : D → D} {f1 : D → Sl} (h : WE cf a s S (fun x S1 => ∃ ds, QSeq S1 x ds ∧ Small ds ∧ (∀ d, d ∈ ds → Tgs tg d own s (f1 d)) ∧ (∀ d, d ∈ ds → Pv cf S1 e (f1 d) (g d)) ∧ Q (.fl (ds.map g)) S1) X) : WE cf (.cmph false e tg (.seq a) [] own) s S Q X := ⟨by
  have h := h.h
  cases he : evalE cf a s S with
  | ok x S1 =>
    rw [he] at h
    obtain ⟨ds, h1, h2, h3, h4, h5⟩ := h
    obtain ⟨src, e1, e2⟩ := bd h1.h
    have hit : evalIt cf (.seq a) s S = .ok src S1 := by simp only [evalIt, he, R.bind_ok, e1, opt_some]
    rw [cmph_map (t := false) g hit e2 h2.h fun d hd => ⟨f1 d, (h3 d hd).h, pv_ok e _ (h4 d hd).h⟩]
    unfold mk
    rw [if_pos (by rw [List.length_map]; exact h2.h)]
    exact h5
  | ex c pl S1 =>
    rw [he] at h
    simp only [evalE, evalIt, he, R.bind_ex]
    exact h
  | no => rw [he] at h; exact h.elim⟩
theorem k_rep {ds : List D} {k : Int} (h : ds ≠ []) (h2 : 2 ≤ k) (h3 : k ≤ 1000) (h4 : ds.length ≤ 1000) : LBin S .Mult (.tup ds) (.int k) (.tup (List.replicate k.toNat ds).flatten) := ⟨by
  show toO (repT ds k S) = _
  unfold repT
  rw [if_pos ⟨h, h2, h3, h4⟩]; rfl⟩
/-- a list of the store -/
structure CellL (S : Store) (p : Nat) (l : List D) : Prop where
  h : cellL S p = some l
theorem k_ixc {p k : Nat} {l : List D} (hc : CellL S p l) (h : At l k v) : LIx S (.lst p) (.int (k : Int)) v := ⟨by
  unfold ixD
  simp only [itemsOf, hc.h, opt_some, L2.atI_nat h.h, toO_ok]⟩
theorem l_seqc {p : Nat} {l : List D} (hc : CellL S p l) : QSeq S (.lst p) l := ⟨by
  show ((cellL S p).map fun _ => Src.cell p).bind (fun r => itemsS S r) = some l
  rw [hc.h]
  exact hc.h⟩
theorem k_tupc {p : Nat} {l : List D} (hc : CellL S p l) : LBi S .tuple (.lst p) (.tup l) := ⟨by
  unfold bi
  simp only [listOf, hc.h, opt_some, toO_ok]⟩
theorem k_lenc {p : Nat} {l : List D} (hc : CellL S p l) : LBi S .len (.lst p) (.int l.length) := ⟨by
  unfold bi
  simp only [itemsOf, hc.h, opt_some, toO_ok]⟩
/-- [list(row) for row in rows], lists that are changed later -/
theorem e_lists {i : Nat} {l : List (List D)} (hit : PvS cf S it s (l.map .tup)) (hl : Small l) (hi : i < s.length) (hr : ∀ r, r ∈ l → Small r) (hq : Q (.lst (S.length + l.length)) (S ++ (l.map .lst ++ [.lst ((List.range l.length).map fun k => .lst (S.length + k))]))) : WE cf (.cmph true (.lof true (.var i)) (.nm i) it [] [i]) s S Q X := ⟨by
  obtain ⟨src, e1, e2, e3⟩ := hit.h
  have hs : ∀ S', itemsS S' src = some (l.map .tup) := fun S' => by rw [still_items S' S e2]; exact e3
  have key := compG_wp (src := src) (ds := l.map D.tup) (tg := .nm i) (ts := fun s2 S2 => evalIfs cf [] s2 S2) (elt := fun s2 S2 => evalE cf (.lof true (.var i)) s2 S2) (s := wipeD s [i])
    (fun j acc S' => S' = S ++ (l.take j).map .lst ∧ acc = (List.range j).map fun k => .lst (S.length + k)) (fun _ _ S' _ => hs S') (by rw [List.length_map]; exact hl.h) ?_ (src.len S) 0 [] S ⟨by simp, rfl⟩ (by rw [(itemsS_at e3).2]; omega) (Nat.le_refl _)
  · rw [evalE, e1, R.bind_ok]
    obtain ⟨acc, S', e4, ⟨h1, h2⟩, h3⟩ := wpR_iff.mp key
    rw [List.length_map] at h1 h2 h3
    subst h1 h2
    rw [e4, R.bind_ok]
    unfold mk
    rw [if_pos (show ((List.range l.length).map fun k => D.lst (S.length + k)).length ≤ lim by rw [List.length_map, List.length_range]; exact hl.h)]
    rw [List.take_length]
    simp only [if_true]
    have e5 : (S ++ l.map Cell.lst).length = S.length + l.length := by simp
    rw [e5, List.append_assoc]
    exact hq
  · intro j d acc S' hd ⟨h1, h2⟩
    subst h1 h2
    rw [List.getElem?_map] at hd
    cases e6 : l[j]? with
    | none => rw [e6] at hd; cases hd
    | some r =>
      rw [e6] at hd
      cases hd
      have hj := (List.getElem?_eq_some_iff.mp e6).1
      refine ⟨_, rfl, ?_⟩
      simp only [evalIfs]
      show wpR (evalE cf (.lof true (.var i)) _ _) _
      have ev : ∀ S', evalE cf (.var i) ((wipeD s [i]).set i (some (.tup r))) S' = .ok (.tup r) S' := fun S' => ev_var (by
        rw [List.getElem?_set_self (by simp [wipeD]; exact hi)])
      simp only [evalE] at ev ⊢
      rw [ev]
      simp only [R.bind_ok, items_tup, opt_some]
      unfold mk
      rw [if_pos (show r.length ≤ lim from (hr r (List.mem_of_getElem? e6)).h)]
      simp only [if_true]
      have e7 : (S ++ (l.take j).map Cell.lst).length = S.length + j := by simp; omega
      refine ⟨?_, ?_⟩
      · rw [List.append_assoc, List.take_add_one, e6]
        simp
      · rw [e7, List.range_succ]
        simp⟩
/-- for, the store may change -/
theorem w_forS {α : Type} {body : List St} {l : List α} {g : α → D} (I : Nat → Sl → Store → Prop) (hit : PvS cf S it s ds) (hm : Mp ds l g) (h0 : I 0 s S)
    (step : ∀ i a s S, l[i]? = some a → I i s S → Turn cf n tg (g a) body s S { nx := I (i + 1), ct := I (i + 1), bk := fun s S => W cf n rest s S k, rt := k.rt, ex := k.ex })
    (hend : ∀ s S, I l.length s S → W cf n rest s S k) : W cf n (.for tg it body :: rest) s S k := ⟨by
  obtain ⟨src, e1, e2, e3⟩ := hit.h
  have e := hm.h
  subst e
  have hs : ∀ S', itemsS S' src = some (l.map g) := fun S' => by rw [still_items S' S e2]; exact e3
  refine wp_cons (wp_for I e1 (fun i s S' h => hs S') h0 ?_ fun s S' h => ?_)
  · intro i d s' S' hd hI
    rw [List.getElem?_map] at hd
    cases e : l[i]? with
    | none => rw [e] at hd; cases hd
    | some a =>
      rw [e] at hd
      cases hd
      obtain ⟨s1, e1, h⟩ := (step i a s' S' e hI).h
      exact ⟨s1, e1, wpF_imp h (fun _ _ h => h) (fun _ _ h => h) (fun _ _ h => h.h) (fun _ _ h => h) fun _ _ _ h => h⟩
  · rw [List.length_map] at h
    exact (hend s S' h).h⟩
theorem w_ex {e : E} (h : Pv cf S e s v) (h2 : W cf n rest s S k) : W cf n (.ex e :: rest) s S k := ⟨by
  refine wp_cons ?_
  simp only [exec]
  exact wpF_eq (pv_ok e s h.h) h2.h⟩
theorem ex_asg {d : D} {is : List Nat} {s s' : Sl} {ds : List D} {Wp : Sl → Prop} (h1 : Itm S d ds) (h2 : SetTs is ds s s') (h3 : Wp s') : ∃ ds s', Itm S d ds ∧ SetTs is ds s s' ∧ Wp s' := ⟨ds, s', h1, h2, h3⟩
theorem j_rng' {i : Int} {m : Nat} (ha : Pv cf S a s (.int i)) (e : i = (m : Int)) (hk : m ≤ 16777216) : PvS cf S (.rng1 a) s ((List.range m).map fun (i : Nat) => D.int (i : Int)) := by
  subst e
  exact ⟨.rng 0 m, it_rng (pv_ok a s ha.h) hk, rfl, it_rng_items⟩
/-- a loop whose items are told one by one -/
def LoopP (cf : Nat → List D → Store → R D) (n : Nat) (tg : Tg) (body rest : List St) (k : Kt) : List D → Sl → Store → Prop
  | [], s, S => W cf n rest s S k
  | d :: ds, s, S => Turn cf n tg d body s S { nx := LoopP cf n tg body rest k ds, ct := LoopP cf n tg body rest k ds, bk := fun s S => W cf n rest s S k, rt := k.rt, ex := k.ex }
structure Loop (cf : Nat → List D → Store → R D) (n : Nat) (tg : Tg) (body rest : List St) (k : Kt) (ds : List D) (s : Sl) (S : Store) : Prop where
  h : LoopP cf n tg body rest k ds s S
theorem loop_nil {body : List St} (h : W cf n rest s S k) : Loop cf n tg body rest k [] s S := ⟨h⟩
theorem loop_cons {body : List St} {d : D} (h : Turn cf n tg d body s S { nx := fun s S => Loop cf n tg body rest k ds s S, ct := fun s S => Loop cf n tg body rest k ds s S, bk := fun s S => W cf n rest s S k, rt := k.rt, ex := k.ex }) : Loop cf n tg body rest k (d :: ds) s S := ⟨by
  obtain ⟨s1, e1, h⟩ := h.h
  exact ⟨s1, e1, wpF_imp h (fun _ _ h => h.h) (fun _ _ h => h) (fun _ _ h => h) (fun _ _ h => h.h) fun _ _ _ h => h⟩⟩
theorem w_loop {body : List St} (hit : PvS cf S it s ds) (h : Loop cf n tg body rest k ds s S) : W cf n (.for tg it body :: rest) s S k := ⟨by
  obtain ⟨src, e1, e2, e3⟩ := hit.h
  have hs : ∀ S', itemsS S' src = some ds := fun S' => by rw [still_items S' S e2]; exact e3
  refine wp_cons (wp_for (fun i s S => LoopP cf n tg body rest k (ds.drop i) s S) e1 (fun i s S' h => hs S') h.h ?_ fun s' S' h => ?_)
  · intro i d s' S' hd hI
    have hi := (List.getElem?_eq_some_iff.mp hd)
    obtain ⟨hi, rfl⟩ := hi
    rw [List.drop_eq_getElem_cons hi] at hI
    obtain ⟨s1, e1, h⟩ := hI.h
    exact ⟨s1, e1, wpF_imp h (fun _ _ h => h) (fun _ _ h => h) (fun _ _ h => h.h) (fun _ _ h => h) fun _ _ _ h => h⟩
  · rw [List.drop_length] at h
    exact h.h⟩
theorem w_asgTX {is : List Nat} {e : E} (h : WE cf e s S (fun d S1 => ∃ ds s', Itm S1 d ds ∧ SetTs is ds s s' ∧ W cf n rest s' S1 k) k.ex) : W cf n (.asgT is e :: rest) s S k := ⟨by
  refine wp_cons ?_
  simp only [exec]
  refine wpF_bindX ?_
  have := h.h
  cases e : evalE cf e s S <;> rw [e] at this
  · obtain ⟨ds, s', h1, h2, h3⟩ := this
    show wpF (match itemsOf _ _ with
      | some ds => (match setSl is ds s with
        | some s1 => F.nx s1 _
        | none => F.no)
      | none => F.no) _
    simp only [h1.h, h2.h]
    exact h3.h
  · exact this
  · exact this⟩
theorem w_par2X {i j : Nat} {a b : E} (h : WE cf a s S (fun x S1 => WE cf b s S1 (fun y S2 => W cf n rest ((s.set i (some x)).set j (some y)) S2 k) k.ex) k.ex) : W cf n (.par2 i j a b :: rest) s S k := ⟨by
  refine wp_cons ?_
  simp only [exec]
  refine wpF_bindX (wpX_imp h.h (fun x S1 h1 => wpF_bindX (wpX_imp h1.h (fun y S2 h2 => h2.h) fun _ _ _ z => z)) fun _ _ _ z => z)⟩
theorem w_par3X {i j l : Nat} {a b c : E} (h : WE cf a s S (fun x S1 => WE cf b s S1 (fun y S2 => WE cf c s S2 (fun z S3 => W cf n rest (((s.set i (some x)).set j (some y)).set l (some z)) S3 k) k.ex) k.ex) k.ex) : W cf n (.par3 i j l a b c :: rest) s S k := ⟨by
  refine wp_cons ?_
  simp only [exec]
  refine wpF_bindX (wpX_imp h.h (fun x S1 h1 => wpF_bindX (wpX_imp h1.h (fun y S2 h2 => wpF_bindX (wpX_imp h2.h (fun z S3 h3 => h3.h) fun _ _ _ z => z)) fun _ _ _ z => z)) fun _ _ _ z => z)⟩
theorem w_try {body : List St} {hs : List (Nat × D)} (h : W cf n body s S { k with nx := fun s S => W cf n rest s S k, ex := fun c pl S1 => match hs.lookup c with | some h => k.rt h S1 | none => k.ex c pl S1 }) : W cf n (.try1 body hs :: rest) s S k := ⟨by
  refine wp_cons ?_
  simp only [exec]
  have h := h.h
  cases e : execs cf n body s S <;> rw [e] at h
  · exact h.h
  · exact h
  · exact h
  · exact h
  · rename_i c pl s1 S1
    have h : (match hs.lookup c with | some h => k.rt h S1 | none => k.ex c pl S1) := h
    unfold tryF
    cases e2 : hs.lookup c with
    | none => rw [e2] at h; simp only [e2]; exact h
    | some d => rw [e2] at h; simp only [e2]; exact h
  · exact h⟩
theorem w_raise {c : Nat} {es : List E} {vs : List D} (h : Pvs cf S es s vs) (hx : k.ex c [] S) : W cf n (.raise c es :: rest) s S k := ⟨by
  refine wp_cons ?_
  simp only [exec]
  exact wpF_eq (pvs_ok es s h.h) hx⟩
structure Keys (xs : List D) (ks : List L2.Key) : Prop where
  h : keysOf xs = some ks
structure CellT (S : Store) (p : Nat) (kvs : List (List L2.Key × D)) : Prop where
  h : cellT S p = some kvs
theorem keys_nil : Keys [] [] := ⟨rfl⟩
theorem keys_int {i : Int} {xs : List D} {ks : List L2.Key} (h : Keys xs ks) : Keys (.int i :: xs) (.inl i :: ks) := ⟨by simp [keysOf, keyOf, h.h]⟩
theorem e_newT (hq : Q (.dct S.length) (S ++ [.dT []])) : WE cf .newT s S Q X := ⟨by
  simp only [evalE]
  exact hq⟩
theorem w_putT {o e : E} {i : List E} {p : Nat} {xs : List D} {ks : List L2.Key} {kvs : List (List L2.Key × D)} (h : Pv cf S e s v) (ho : Pv cf S o s (.dct p)) (hi : Pvs cf S i s xs) (hk : Keys xs ks) (hl : Small xs) (hc : CellT S p kvs) (hj : kvs.length < 16777216) (h2 : W cf n rest s (S.set p (.dT (storeD kvs ks v))) k) : W cf n (.putT o i e :: rest) s S k := ⟨by
  refine wp_cons ?_
  simp only [exec]
  refine wpF_eq (pv_ok e s h.h) (wpF_eq (pv_ok o s ho.h) (wpF_eq (pvs_ok i s hi.h) ?_))
  rw [if_pos (show xs.length ≤ lim from hl.h)]
  unfold putTD
  simp only [hk.h, hc.h, opt_some]
  rw [if_pos (show kvs.length < lim from hj)]
  exact h2.h⟩
theorem z_inT {ng : Bool} {a : List E} {b : E} {p : Nat} {xs : List D} {ks : List L2.Key} {kvs : List (List L2.Key × D)} (ha : Pvs cf S a s xs) (hb : Pv cf S b s (.dct p)) (hk : Keys xs ks) (hl : Small xs) (hc : CellT S p kvs) : Pv cf S (.inT ng a b) s (.bl (ng != (lookD kvs ks).isSome)) := ⟨by
  simp only [pv, ha.h, Option.bind_some]
  rw [if_pos (show xs.length ≤ lim from hl.h)]
  simp only [hb.h, Option.bind_some, inTD, hk.h, hc.h, opt_some, toO_ok]⟩
/-- list[i] = e, of a list of the store -/
theorem w_set {o i e : E} {p j : Nat} {l : List D} (h : Pv cf S e s v) (ho : Pv cf S o s (.lst p)) (hi : Pv cf S i s (.int (j : Int))) (hc : cellL S p = some l) (hj : j < l.length) (h2 : W cf n rest s (S.set p (.lst (l.set j v))) k) : W cf n (.asgS o i e :: rest) s S k := ⟨by
  refine wp_cons ?_
  simp only [exec]
  refine wpF_eq (pv_ok e s h.h) (wpF_eq (pv_ok o s ho.h) (wpF_eq (pv_ok i s hi.h) ?_))
  have e1 : L2.ixN l.length (j : Int) = some j := by
    unfold L2.ixN
    rw [if_pos (by omega), if_pos (by omega)]
    simp
  unfold setD
  simp only [hc, opt_some, e1]
  exact h2.h⟩
end
section
variable {cf : Nat → List D → Store → R D} {P : List Fn} {n d i : Nat} {f : Fn} {vs : List D} {S : Store} {b : List St} {s : Sl} {Q : D → Store → Prop} {X : Nat → List (List Nat × D) → Store → Prop}
theorem StT.app {R S T : Store} (h : StT R S) : StT (R ++ T) (S ++ T) := by
  obtain ⟨u, t, h1, h2, e⟩ := h
  exact ⟨u, t, h1, h2, by rw [e]; rfl⟩
theorem stT_ok {R R' S S1 : Store} (h : StT R S) (h1 : StT (R ++ R') S1) : okStore S S1 = true ∧ StT R (S1.take S.length) := by
  obtain ⟨u, t, a1, a2, rfl⟩ := h
  obtain ⟨u', t', b1, b2, rfl⟩ := h1
  refine ⟨okStore_of (by simp) fun j hj => ?_, ⟨u', t', b1, b2, by simp⟩⟩
  cases j with
  | zero => exact .inr ⟨_, rfl, by unfold flatC cellV noRefs; rfl⟩
  | succ j =>
    refine .inl ?_
    simp at hj
    rw [List.getElem?_cons_succ, List.getElem?_cons_succ, List.getElem?_append_left (by omega)]
theorem StT.last {R S : Store} {c : Cell} (h : StT (R ++ [c]) S) : S[R.length + 1]? = some c := by
  obtain ⟨u, t, _, _, rfl⟩ := h
  simp
theorem StT.cellT {R S : Store} {kvs : List (List L2.Key × D)} (h : StT (R ++ [.dT kvs]) S) : CellT S (R.length + 1) kvs := ⟨by unfold DI.cellT; rw [h.last]⟩
theorem StT.cell {R S : Store} {k : Nat} {l : List D} (h : StT R S) (hk : R[k]? = some (.lst l)) : CellL S (k + 1) l := ⟨by
  obtain ⟨u, t, _, _, rfl⟩ := h
  unfold cellL
  rw [List.getElem?_cons_succ, hk]⟩
theorem StT.put {R S : Store} {k : Nat} {c : Cell} (h : StT R S) : StT (R.set k c) (S.set (k + 1) c) := by
  obtain ⟨u, t, h1, h2, rfl⟩ := h
  exact ⟨u, t, h1, h2, by simp⟩
theorem StT.set {R S : Store} {c c' : Cell} (h : StT (R ++ [c]) S) : StT (R ++ [c']) (S.set (R.length + 1) c') := by
  obtain ⟨u, t, h1, h2, rfl⟩ := h
  exact ⟨u, t, h1, h2, by simp⟩
theorem StT.len {R S : Store} (h : StT R S) : S.length = R.length + 1 := by
  obtain ⟨u, t, h1, h2, rfl⟩ := h
  simp
/-- the keys of a dict -/
theorem look_store {κ : Type} [DecidableEq κ] {kvs : List (κ × D)} {k k' : κ} {v : D} : (lookD (storeD kvs k v) k').isSome = (decide (k = k') || (lookD kvs k').isSome) := by
  unfold lookD storeD
  rw [Option.isSome_map, Option.isSome_map]
  rw [Bool.eq_iff_iff]
  simp only [List.find?_isSome, Bool.or_eq_true, decide_eq_true_eq]
  split
  · rename_i h
    rw [List.any_eq_true] at h
    obtain ⟨kv, hkv, e⟩ := h
    rw [decide_eq_true_eq] at e
    constructor
    · rintro ⟨x, hx, e1⟩
      obtain ⟨y, hy, rfl⟩ := List.mem_map.mp hx
      refine .inr ⟨y, hy, ?_⟩
      split at e1 <;> exact e1
    · rintro (rfl | ⟨x, hx, e1⟩)
      · exact ⟨_, List.mem_map.mpr ⟨kv, hkv, rfl⟩, by split <;> exact e⟩
      · exact ⟨_, List.mem_map.mpr ⟨x, hx, rfl⟩, by split <;> exact e1⟩
  · constructor
    · rintro ⟨x, hx, e1⟩
      rcases List.mem_append.mp hx with hx | hx
      · exact .inr ⟨x, hx, e1⟩
      · rw [List.mem_singleton.mp hx] at e1
        exact .inl e1
    · rintro (rfl | ⟨x, hx, e1⟩)
      · exact ⟨(k, v), by simp, rfl⟩
      · exact ⟨x, by simp [hx], e1⟩
theorem store_len {κ : Type} [DecidableEq κ] {kvs : List (κ × D)} {k : κ} {v : D} : (storeD kvs k v).length ≤ kvs.length + 1 := by
  unfold storeD
  split
  · simp
  · simp
/-- a call that draws -/
theorem c_eff {R : Store} (h : P[i]? = some f) (hk : f.keep = false) (hg : Begin f vs b s) (hS : StT R S)
    (hb : W (callF P n d) n b s S { nx := fun _ S1 => (∃ T, StT (R ++ T) S1) ∧ ∀ S2, StT R S2 → Q .non S2, rt := fun v S1 => (∃ T, StT (R ++ T) S1) ∧ noRef S.length v = true ∧ ∀ S2, StT R S2 → Q v S2, ex := fun c pl S1 => pl = [] ∧ (∃ T, StT (R ++ T) S1) ∧ ∀ S2, StT R S2 → X c [] S2 }) : WC (callF P n (d + 1)) i vs S Q X := ⟨by
  rw [call_at h hg.hl, hg.hb, hg.hs, hk]
  have hb := hb.h
  cases e : execs (callF P n d) n b s S with
  | nx s1 S1 =>
    rw [e] at hb
    obtain ⟨⟨T, hT⟩, hq⟩ := hb
    obtain ⟨ok, st⟩ := stT_ok hS hT
    show wpX (cut S false .non S1) _ _
    rw [cut_of ok rfl]
    exact hq _ st
  | rt v S1 =>
    rw [e] at hb
    obtain ⟨⟨T, hT⟩, hv, hq⟩ := hb
    obtain ⟨ok, st⟩ := stT_ok hS hT
    show wpX (cut S false v S1) _ _
    rw [cut_of ok hv]
    exact hq _ st
  | ex c pl s1 S1 =>
    rw [e] at hb
    obtain ⟨rfl, ⟨T, hT⟩, hq⟩ := hb
    obtain ⟨ok, st⟩ := stT_ok hS hT
    show wpX (if (okStore S S1 && _) = true then _ else _) _ _
    rw [ok]
    exact hq _ st
  | bk s1 S1 => rw [e] at hb; exact hb.elim
  | ct s1 S1 => rw [e] at hb; exact hb.elim
  | no => rw [e] at hb; exact hb.elim⟩
theorem fin_eff {R S S1 : Store} {v : D} {Q : D → Store → Prop} (h : StT R S1) (hv : pd v = true) (hq : ∀ S2, StT R S2 → Q v S2) : (∃ T, StT (R ++ T) S1) ∧ noRef S.length v = true ∧ ∀ S2, StT R S2 → Q v S2 := ⟨⟨[], by rw [List.append_nil]; exact h⟩, pd_ref _ v hv, hq⟩
/-- a call that changes nothing, and may raise -/
theorem c_exc (h : P[i]? = some f) (hk : f.keep = false) (hg : Begin f vs b s)
    (hb : W (callF P n d) n b s S { nx := fun _ S1 => (∃ T, S1 = S ++ T) ∧ Q .non S, rt := fun v S1 => (∃ T, S1 = S ++ T) ∧ noRef S.length v = true ∧ Q v S, ex := fun c pl S1 => pl = [] ∧ (∃ T, S1 = S ++ T) ∧ X c [] S }) : WC (callF P n (d + 1)) i vs S Q X := ⟨by
  rw [call_at h hg.hl, hg.hb, hg.hs, hk]
  have hb := hb.h
  cases e : execs (callF P n d) n b s S with
  | nx s1 S1 =>
    rw [e] at hb
    obtain ⟨⟨T, rfl⟩, hq⟩ := hb
    show wpX (cut S false .non (S ++ T)) _ _
    rw [cut_app rfl]
    exact hq
  | rt v S1 =>
    rw [e] at hb
    obtain ⟨⟨T, rfl⟩, hv, hq⟩ := hb
    show wpX (cut S false v (S ++ T)) _ _
    rw [cut_app hv]
    exact hq
  | ex c pl s1 S1 =>
    rw [e] at hb
    obtain ⟨rfl, ⟨T, rfl⟩, hq⟩ := hb
    show wpX (if (okStore S (S ++ T) && _) = true then R.ex c [] ((S ++ T).take S.length) else _) _ _
    rw [okStore_app]
    simp
    exact hq
  | bk s1 S1 => rw [e] at hb; exact hb.elim
  | ct s1 S1 => rw [e] at hb; exact hb.elim
  | no => rw [e] at hb; exact hb.elim⟩
/-- a call that changes nothing and hands back something that is told -/
theorem c_rel {Rl : D → Prop} (h : P[i]? = some f) (hk : f.keep = false) (hg : Begin f vs b s)
    (hb : W (callF P n d) n b s S { nx := fun _ S1 => (∃ T, S1 = S ++ T) ∧ Rl .non, rt := fun v S1 => (∃ T, S1 = S ++ T) ∧ noRef S.length v = true ∧ Rl v }) : ∃ v, Rl v ∧ Cl (callF P n (d + 1)) S i vs v := by
  have key : WC (callF P n (d + 1)) i vs S (fun v S1 => S1 = S ∧ Rl v) (fun _ _ _ => False) := c_exc h hk hg ⟨wpF_imp hb.h (fun _ _ ⟨h1, h2⟩ => ⟨h1, rfl, h2⟩) (fun _ _ ⟨h1, h2, h3⟩ => ⟨h1, h2, rfl, h3⟩) (fun _ _ z => z) (fun _ _ z => z) fun _ _ _ z => z.elim⟩
  have key := key.h
  cases e : callF P n (d + 1) i vs S with
  | ok v S1 =>
    rw [e] at key
    obtain ⟨rfl, h⟩ := key
    exact ⟨v, h, ⟨e⟩⟩
  | ex c pl S1 => rw [e] at key; exact key.elim
  | no => rw [e] at key; exact key.elim
end
end DI
end
section
set_option maxRecDepth 100000
/-! K84a: the text of law k84 in the small language. -/
namespace K84
open PySem DI
/-- the i-th statement of the program -/
abbrev top (i : Nat) : Stmt := PySem.Challenge.pw_dualroads_k84_whole_papers_of_webs.main.body.getD i (.Pass ⟨0, 0, 0, 0⟩)
abbrev d0 : Df := ⟨"is_integer", top 4, ["value"], ["value"]⟩
def f0 : Fn := ⟨1, 1, false, [
    .ret (.and [(.isi (.var 0) [.int]), (.not (.isi (.var 0) [.bool]))])]⟩
abbrev d1 : Df := ⟨"is_web", top 8, ["value", "v", "row", "x", "b", "a"], ["value"]⟩
def f1 : Fn := ⟨1, 6, false, [
    .iff (.or [(.not (.isi (.var 0) [.tuple])), (.not (.chn .LtE .LtE (.con (.int 2)) (.bi .len (.var 0)) (.con (.int 64))))]) [.ret (.con (.bl false))] [],
    .asg 1 (.bi .len (.var 0)),
    .for (.nm 2) (.seq (.var 0)) [.iff (.or [(.not (.isi (.var 2) [.tuple])), (.cmp .NotEq (.bi .len (.var 2)) (.var 1)), (.not (.bi .all (.cmph false (.and [(.call 0 [(.var 3)]), (.chn .LtE .LtE (.con (.int 0)) (.var 3) (.con (.int 1)))]) (.nm 3) (.seq (.var 2)) [] [3])))]) [.ret (.con (.bl false))] []],
    .ret (.bi .all (.cmph false (.and [(.cmp .Eq (.ix (.ix (.var 0) (.var 5)) (.var 5)) (.con (.int 0))), (.bi .all (.cmph false (.cmp .Eq (.ix (.ix (.var 0) (.var 5)) (.var 4)) (.ix (.ix (.var 0) (.var 4)) (.var 5))) (.nm 4) (.rng1 (.var 5)) [] [4]))]) (.nm 5) (.rng1 (.var 1)) [] [5]))]⟩
abbrev d2 : Df := ⟨"check_web", top 9, ["T"], ["T"]⟩
def f2 : Fn := ⟨1, 1, false, [
    .iff (.not (.call 1 [(.var 0)])) [.raise 0 [(.con (.str [110, 111, 32, 119, 101, 98]))]] []]⟩
abbrev d3 : Df := ⟨"common_of", top 10, ["T", "a", "b", "x", "y"], ["T", "a", "b"]⟩
def f3 : Fn := ⟨3, 5, false, [
    .ret (.bi .sum (.cmph false (.bin .Mult (.var 3) (.var 4)) (.tp [3, 4]) (.zip (.ix (.var 0) (.var 1)) (.ix (.var 0) (.var 2))) [] [3, 4]))]⟩
abbrev d4 : Df := ⟨"numbers_of", top 11, ["T", "v", "k", "row", "counts", "a", "b", "many"], ["T"]⟩
def f4 : Fn := ⟨1, 8, false, [
    .asgT [1, 2] (.tup [(.bi .len (.var 0)), (.bi .sum (.ix (.var 0) (.con (.int 0))))]),
    .iff (.or [(.not (.chn .LtE .LtE (.con (.int 1)) (.var 2) (.bin .Sub (.var 1) (.con (.int 2))))), (.bi .any (.cmph false (.cmp .NotEq (.bi .sum (.var 3)) (.var 2)) (.nm 3) (.seq (.var 0)) [] [3]))]) [.ret (.con .non)] [],
    .asg 4 (.lst true [(.con .non), (.con .non)]),
    .for (.nm 5) (.rng1 (.var 1)) [.for (.nm 6) (.rng1 (.var 5)) [.asg 7 (.call 3 [(.var 0), (.var 5), (.var 6)]), .iff (.cmp .Is (.ix (.var 4) (.ix (.ix (.var 0) (.var 5)) (.var 6))) (.con .non)) [.asgS (.var 4) (.ix (.ix (.var 0) (.var 5)) (.var 6)) (.var 7)] [], .iff (.cmp .NotEq (.ix (.var 4) (.ix (.ix (.var 0) (.var 5)) (.var 6))) (.var 7)) [.ret (.con .non)] []]],
    .ret (.tup [(.var 1), (.var 2), (.ix (.var 4) (.con (.int 1))), (.ix (.var 4) (.con (.int 0)))])]⟩
abbrev d5 : Df := ⟨"is_paper", top 13, ["value", "word", "many"], ["value", "word", "many"]⟩
def f5 : Fn := ⟨3, 3, false, [
    .ret (.and [(.isi (.var 0) [.tuple]), (.cmp .Eq (.bi .len (.var 0)) (.var 2)), (.isi (.ix (.var 0) (.con (.int 0))) [.str]), (.cmp .Eq (.ix (.var 0) (.con (.int 0))) (.var 1))])]⟩
abbrev d6 : Df := ⟨"is_point", top 14, ["a", "v"], ["a", "v"]⟩
def f6 : Fn := ⟨2, 2, false, [
    .ret (.and [(.call 0 [(.var 0)]), (.chn .LtE .Lt (.con (.int 0)) (.var 0) (.var 1))])]⟩
abbrev d7 : Df := ⟨"is_pair", top 15, ["T", "e", "x", "a"], ["T", "e", "x"]⟩
def f7 : Fn := ⟨3, 4, false, [
    .iff (.or [(.not (.isi (.var 1) [.tuple])), (.cmp .NotEq (.bi .len (.var 1)) (.con (.int 2))), (.not (.bi .all (.cmph false (.call 6 [(.var 3), (.bi .len (.var 0))]) (.nm 3) (.seq (.var 1)) [] [3])))]) [.ret (.con (.bl false))] [],
    .ret (.and [(.cmp .NotEq (.ix (.var 1) (.con (.int 0))) (.ix (.var 1) (.con (.int 1)))), (.cmp .Eq (.ix (.ix (.var 0) (.ix (.var 1) (.con (.int 0)))) (.ix (.var 1) (.con (.int 1)))) (.var 2))])]⟩
abbrev d8 : Df := ⟨"are_unlike", top 16, ["T", "e", "f", "x"], ["T", "e", "f", "x"]⟩
def f8 : Fn := ⟨4, 4, false, [
    .ret (.and [(.call 7 [(.var 0), (.var 1), (.var 3)]), (.call 7 [(.var 0), (.var 2), (.var 3)]), (.cmp .NotEq (.call 3 [(.var 0), (.ix (.var 1) (.con (.int 0))), (.ix (.var 1) (.con (.int 1)))]) (.call 3 [(.var 0), (.ix (.var 2) (.con (.int 0))), (.ix (.var 2) (.con (.int 1)))]))])]⟩
abbrev d9 : Df := ⟨"is_valency_paper", top 17, ["T", "a", "b"], ["T", "a", "b"]⟩
def f9 : Fn := ⟨3, 3, false, [
    .ret (.and [(.call 6 [(.var 1), (.bi .len (.var 0))]), (.call 6 [(.var 2), (.bi .len (.var 0))]), (.cmp .NotEq (.bi .sum (.ix (.var 0) (.var 1))) (.bi .sum (.ix (.var 0) (.var 2))))])]⟩
abbrev d10 : Df := ⟨"takes_web", top 18, ["T", "paper", "x", "row"], ["T", "paper"]⟩
def f10 : Fn := ⟨2, 4, false, [
    .ex (.call 2 [(.var 0)]),
    .iff (.call 5 [(.var 1), (.con (.str [119, 101, 98])), (.con (.int 4))]) [.ret (.and [(.bi .all (.cmph false (.call 0 [(.var 2)]) (.nm 2) (.seq (.sl (.var 1) (some (.con (.int 1))) none)) [] [2])), (.cmp .Eq (.call 4 [(.var 0)]) (.bin .Add (.tup [(.bi .len (.var 0))]) (.sl (.var 1) (some (.con (.int 1))) none)))])] [],
    .iff (.call 5 [(.var 1), (.con (.str [119, 104, 111, 108, 101])), (.con (.int 1))]) [.ret (.isIn false (.bi .sum (.cmph false (.bi .sum (.var 3)) (.nm 3) (.seq (.var 0)) [] [3])) (.tup [(.con (.int 0)), (.bin .Mult (.bi .len (.var 0)) (.bin .Sub (.bi .len (.var 0)) (.con (.int 1))))]))] [],
    .iff (.call 5 [(.var 1), (.con (.str [118, 97, 108, 101, 110, 99, 121])), (.con (.int 3))]) [.ret (.call 9 [(.var 0), (.ix (.var 1) (.con (.int 1))), (.ix (.var 1) (.con (.int 2)))])] [],
    .iff (.call 5 [(.var 1), (.con (.str [106, 111, 105, 110, 101, 100])), (.con (.int 3))]) [.ret (.call 8 [(.var 0), (.ix (.var 1) (.con (.int 1))), (.ix (.var 1) (.con (.int 2))), (.con (.int 1))])] [],
    .ret (.and [(.call 5 [(.var 1), (.con (.str [97, 112, 97, 114, 116])), (.con (.int 3))]), (.call 8 [(.var 0), (.ix (.var 1) (.con (.int 1))), (.ix (.var 1) (.con (.int 2))), (.con (.int 0))])])]⟩
abbrev d11 : Df := ⟨"unlike_pairs", top 20, ["T", "x", "first", "a", "b", "many"], ["T", "x"]⟩
def f11 : Fn := ⟨2, 6, false, [
    .asg 2 (.con .non),
    .for (.nm 3) (.rng1 (.bi .len (.var 0))) [.for (.nm 4) (.rng1 (.var 3)) [.iff (.cmp .Eq (.ix (.ix (.var 0) (.var 3)) (.var 4)) (.var 1)) [.asg 5 (.call 3 [(.var 0), (.var 3), (.var 4)]), .iff (.cmp .Is (.var 2) (.con .non)) [.asg 2 (.tup [(.tup [(.var 4), (.var 3)]), (.var 5)])] [], .iff (.cmp .NotEq (.var 5) (.ix (.var 2) (.con (.int 1)))) [.ret (.tup [(.ix (.var 2) (.con (.int 0))), (.tup [(.var 4), (.var 3)])])] []] []]],
    .ret (.con .non)]⟩
abbrev d12 : Df := ⟨"web_paper", top 21, ["T", "numbers", "row", "other", "a", "x", "word", "pairs"], ["T"]⟩
def f12 : Fn := ⟨1, 8, false, [
    .ex (.call 2 [(.var 0)]),
    .asg 1 (.call 4 [(.var 0)]),
    .iff (.cmp .IsNot (.var 1) (.con .non)) [.ret (.bin .Add (.tup [(.con (.str [119, 101, 98]))]) (.sl (.var 1) (some (.con (.int 1))) none))] [],
    .iff (.isIn false (.bi .sum (.cmph false (.bi .sum (.var 2)) (.nm 2) (.seq (.var 0)) [] [2])) (.tup [(.con (.int 0)), (.bin .Mult (.bi .len (.var 0)) (.bin .Sub (.bi .len (.var 0)) (.con (.int 1))))])) [.ret (.tup [(.con (.str [119, 104, 111, 108, 101]))])] [],
    .asg 3 (.cmph false (.var 4) (.tp [4, 2]) (.enum (.var 0)) [(.cmp .NotEq (.bi .sum (.var 2)) (.bi .sum (.ix (.var 0) (.con (.int 0)))))] [4, 2]),
    .iff (.cmp .Gt (.bi .len (.var 3)) (.con (.int 0))) [.ret (.tup [(.con (.str [118, 97, 108, 101, 110, 99, 121])), (.con (.int 0)), (.ix (.var 3) (.con (.int 0)))])] [],
    .for (.tp [5, 6]) (.seq (.tup [(.tup [(.con (.int 1)), (.con (.str [106, 111, 105, 110, 101, 100]))]), (.tup [(.con (.int 0)), (.con (.str [97, 112, 97, 114, 116]))])])) [.asg 7 (.call 11 [(.var 0), (.var 5)]), .iff (.cmp .IsNot (.var 7) (.con .non)) [.ret (.bin .Add (.tup [(.var 6)]) (.var 7))] []],
    .ret (.con .non)]⟩
abbrev d13 : Df := ⟨"_law_state", top 23, ["script", "seed", "total", "cell"], ["script"]⟩
def f13 : Fn := ⟨1, 4, true, [
    .asg 1 (.con (.int 0)),
    .asg 2 (.con (.int 1)),
    .for (.nm 3) (.seq (.sl (.var 0) none (some (.con (.int 63))))) [.asg 1 (.bin .Add (.bin .Mult (.var 1) (.con (.int 1000003))) (.bi .abs (.var 3))), .asg 2 (.bin .Mod (.bi .int (.bin .Add (.bin .Mult (.var 2) (.con (.int 48271))) (.var 3))) (.con (.int 2147483647)))],
    .ret (.lst true [(.var 1), (.var 2)])]⟩
abbrev d14 : Df := ⟨"_law_take", top 24, ["state", "m", "value"], ["state", "m"]⟩
def f14 : Fn := ⟨2, 3, false, [
    .iff (.cmp .Gt (.ix (.var 0) (.con (.int 0))) (.con (.int 0))) [.asg 2 (.bin .Mod (.bi .int (.ix (.var 0) (.con (.int 0)))) (.var 1)), .asgS (.var 0) (.con (.int 0)) (.bin .FloorDiv (.ix (.var 0) (.con (.int 0))) (.var 1)), .ret (.var 2)] [],
    .asgS (.var 0) (.con (.int 1)) (.bin .Mod (.bi .int (.bin .Add (.bin .Mult (.ix (.var 0) (.con (.int 1))) (.con (.int 48271))) (.con (.int 11)))) (.con (.int 2147483647))),
    .ret (.bin .Mod (.bi .int (.bin .FloorDiv (.ix (.var 0) (.con (.int 1))) (.con (.int 7)))) (.var 1))]⟩
abbrev d15 : Df := ⟨"_law_odd", top 25, ["value", "item"], ["value"]⟩
def f15 : Fn := ⟨1, 2, false, [
    .iff (.cmp .Eq (.var 0) (.con (.str [97, 32, 119, 111, 114, 100, 32, 116, 104, 97, 116, 32, 110, 111, 116, 104, 105, 110, 103, 32, 101, 108, 115, 101, 32, 105, 115]))) [.ret (.con (.bl true))] [],
    .ret (.and [(.isi (.var 0) [.tuple, .list]), (.cmp .Gt (.bi .len (.cmph false (.var 1) (.nm 1) (.seq (.var 0)) [(.call 15 [(.var 1)])] [1])) (.con (.int 0)))])]⟩
abbrev d16 : Df := ⟨"_law_honest", top 26, ["value"], ["value"]⟩
def f16 : Fn := ⟨1, 1, false, [
    .ret (.ite (.call 15 [(.var 0)]) (.con (.str [111, 100, 100])) (.var 0))]⟩
abbrev d17 : Df := ⟨"_law_says", top 27, ["value", "due"], ["value", "due"]⟩
def f17 : Fn := ⟨2, 2, false, [
    .ret (.and [(.isi (.var 0) [.bool]), (.cmp .Eq (.var 0) (.var 1))])]⟩
abbrev d18 : Df := ⟨"_law_is_whole", top 28, ["value"], ["value"]⟩
def f18 : Fn := ⟨1, 1, false, [
    .ret (.and [(.isi (.var 0) [.int]), (.not (.isi (.var 0) [.bool]))])]⟩
abbrev d19 : Df := ⟨"_law_same", top 29, ["one", "two", "k"], ["one", "two"]⟩
def f19 : Fn := ⟨2, 3, false, [
    .iff (.isi (.var 1) [.tuple]) [.ret (.and [(.isi (.var 0) [.tuple]), (.cmp .Eq (.bi .len (.var 0)) (.bi .len (.var 1))), (.bi .all (.cmph false (.call 19 [(.ix (.var 0) (.var 2)), (.ix (.var 1) (.var 2))]) (.nm 2) (.rng1 (.bi .len (.var 1))) [] [2]))])] [],
    .iff (.isi (.var 1) [.str]) [.ret (.and [(.isi (.var 0) [.str]), (.cmp .Eq (.var 0) (.var 1))])] [],
    .iff (.cmp .Is (.var 1) (.con .non)) [.ret (.cmp .Is (.var 0) (.con .non))] [],
    .ret (.and [(.call 18 [(.var 0)]), (.cmp .Eq (.var 0) (.var 1))])]⟩
abbrev d20 : Df := ⟨"_law_bent", top 30, ["state", "data", "depth", "at", "pick"], ["state", "data", "depth"]⟩
def f20 : Fn := ⟨3, 5, false, [
    .iff (.and [(.isi (.var 1) [.tuple]), (.cmp .Gt (.bi .len (.var 1)) (.con (.int 0))), (.or [(.cmp .Eq (.var 2) (.con (.int 0))), (.cmp .Gt (.call 14 [(.var 0), (.con (.int 4))]) (.con (.int 0)))])]) [.asg 3 (.call 14 [(.var 0), (.bi .len (.var 1))]), .ret (.bin .Add (.bin .Add (.sl (.var 1) none (some (.var 3))) (.tup [(.call 20 [(.var 0), (.ix (.var 1) (.var 3)), (.bin .Add (.var 2) (.con (.int 1)))])])) (.sl (.var 1) (some (.bin .Add (.var 3) (.con (.int 1)))) none))] [],
    .asg 4 (.call 14 [(.var 0), (.con (.int 8))]),
    .iff (.and [(.cmp .Lt (.var 4) (.con (.int 4))), (.isi (.var 1) [.int])]) [.ret (.ix (.lst false [(.bin .Add (.var 1) (.con (.int 1))), (.bin .Sub (.var 1) (.con (.int 1))), (.neg (.var 1)), (.cmp .Eq (.var 1) (.con (.int 1)))]) (.var 4))] [],
    .iff (.isi (.var 1) [.tuple]) [.ret (.ix (.lst false [(.lof false (.var 1)), (.bin .Add (.var 1) (.tup [(.con (.int 0))])), (.sl (.var 1) none (some (.neg (.con (.int 1))))), (.bin .Add (.var 1) (.sl (.var 1) none (some (.con (.int 1))))), (.tup []), (.rev (.var 1)), (.con .non), (.tup [(.var 1)])]) (.var 4))] [],
    .ret (.ix (.lst false [(.con (.int 0)), (.con (.int 1)), (.con (.int 2)), (.con .non), (.tup [(.var 1)]), (.con (.str [115, 116, 117, 99, 107])), (.con (.bl true)), (.con (.int 3))]) (.var 4))]⟩
abbrev d21 : Df := ⟨"_law_has_form", top 31, ["paper", "word", "many"], ["paper", "word", "many"]⟩
def f21 : Fn := ⟨3, 3, false, [
    .ret (.and [(.isi (.var 0) [.tuple]), (.cmp .Eq (.bi .len (.var 0)) (.var 2)), (.isi (.ix (.var 0) (.con (.int 0))) [.str]), (.cmp .Eq (.ix (.var 0) (.con (.int 0))) (.var 1))])]⟩
abbrev d22 : Df := ⟨"_law_picks", top 32, ["n", "k", "found", "turn", "longer", "row", "x"], ["n", "k"]⟩
def f22 : Fn := ⟨2, 7, false, [
    .asg 2 (.lst false [(.tup [])]),
    .for (.nm 3) (.rng1 (.var 1)) [.asg 4 (.lst false []), .for (.nm 5) (.seq (.var 2)) [.asg 4 (.bin .Add (.var 4) (.cmph false (.bin .Add (.var 5) (.tup [(.var 6)])) (.nm 6) (.rng2 (.ite (.cmp .Gt (.bi .len (.var 5)) (.con (.int 0))) (.bin .Add (.ix (.var 5) (.neg (.con (.int 1)))) (.con (.int 1))) (.con (.int 0))) (.var 0)) [] [6]))], .asg 2 (.lof false (.var 4))],
    .ret (.var 2)]⟩
abbrev d23 : Df := ⟨"_law_web", top 33, ["state", "pick", "v", "edges", "a", "m", "n", "b", "points", "x", "turned", "joined"], ["state"]⟩
def f23 : Fn := ⟨1, 12, false, [
    .asg 1 (.call 14 [(.var 0), (.con (.int 8))]),
    .iff (.cmp .Eq (.var 1) (.con (.int 0))) [.asg 2 (.bin .Add (.con (.int 3)) (.call 14 [(.var 0), (.con (.int 8))])), .asg 3 (.cmph false (.tup [(.var 4), (.bin .Mod (.bi .int (.bin .Add (.var 4) (.con (.int 1)))) (.var 2))]) (.nm 4) (.rng1 (.var 2)) [] [4])] [.iff (.cmp .Eq (.var 1) (.con (.int 1))) [.asgT [5, 6] (.tup [(.bin .Add (.con (.int 2)) (.call 14 [(.var 0), (.con (.int 3))])), (.bin .Add (.con (.int 1)) (.call 14 [(.var 0), (.con (.int 4))]))]), .asgT [2, 3] (.tup [(.bin .Mult (.var 5) (.var 6)), (.lst false [])]), .for (.nm 4) (.rng1 (.bin .Mult (.var 5) (.var 6))) [.asg 3 (.bin .Add (.var 3) (.cmph false (.tup [(.var 4), (.var 7)]) (.nm 7) (.rng1 (.var 4)) [(.cmp .NotEq (.bin .FloorDiv (.var 4) (.var 6)) (.bin .FloorDiv (.var 7) (.var 6)))] [7]))]] [.iff (.cmp .Eq (.var 1) (.con (.int 2))) [.asg 8 (.call 22 [(.bin .Add (.con (.int 4)) (.call 14 [(.var 0), (.con (.int 3))])), (.con (.int 2))]), .asgT [2, 3] (.tup [(.bi .len (.var 8)), (.lst false [])]), .for (.nm 4) (.rng1 (.var 2)) [.asg 3 (.bin .Add (.var 3) (.cmph false (.tup [(.var 4), (.var 7)]) (.nm 7) (.rng1 (.var 4)) [(.cmp .Eq (.bi .len (.cmph false (.var 9) (.nm 9) (.seq (.ix (.var 8) (.var 4))) [(.isIn false (.var 9) (.ix (.var 8) (.var 7)))] [9])) (.con (.int 1)))] [7]))]] [.iff (.cmp .Eq (.var 1) (.con (.int 3))) [.asg 6 (.bin .Add (.con (.int 2)) (.call 14 [(.var 0), (.con (.int 3))])), .asgT [2, 3] (.tup [(.bin .Mult (.var 6) (.var 6)), (.lst false [])]), .for (.nm 4) (.rng1 (.var 2)) [.asg 3 (.bin .Add (.var 3) (.cmph false (.tup [(.var 4), (.var 7)]) (.nm 7) (.rng1 (.var 4)) [(.cmp .NotEq (.cmp .Eq (.bin .FloorDiv (.var 4) (.var 6)) (.bin .FloorDiv (.var 7) (.var 6))) (.cmp .Eq (.bin .Mod (.bi .int (.var 4)) (.var 6)) (.bin .Mod (.bi .int (.var 7)) (.var 6))))] [7]))]] [.iff (.cmp .Eq (.var 1) (.con (.int 4))) [.asgT [2, 3] (.tup [(.con (.int 13)), (.lst false [])]), .for (.nm 4) (.rng1 (.con (.int 13))) [.asg 3 (.bin .Add (.var 3) (.cmph false (.tup [(.var 4), (.var 7)]) (.nm 7) (.rng1 (.var 4)) [(.isIn false (.bin .Mod (.bi .int (.bin .Sub (.var 4) (.var 7))) (.con (.int 13))) (.tup [(.con (.int 1)), (.con (.int 3)), (.con (.int 4)), (.con (.int 9)), (.con (.int 10)), (.con (.int 12))]))] [7]))]] [.asgT [2, 3] (.tup [(.bin .Add (.con (.int 2)) (.call 14 [(.var 0), (.con (.int 7))])), (.lst false [])]), .for (.nm 4) (.rng1 (.var 2)) [.asg 3 (.bin .Add (.var 3) (.cmph false (.tup [(.var 4), (.var 7)]) (.nm 7) (.rng1 (.var 4)) [(.cmp .Eq (.call 14 [(.var 0), (.ix (.lst false [(.con (.int 2)), (.con (.int 3))]) (.call 14 [(.var 0), (.con (.int 2))]))]) (.con (.int 0)))] [7]))]]]]]],
    .asg 10 (.cmp .Eq (.call 14 [(.var 0), (.con (.int 3))]) (.con (.int 0))),
    .asg 11 .newT,
    .for (.tp [4, 7]) (.seq (.var 3)) [.putT (.var 11) [(.var 4), (.var 7)] (.con (.bl true)), .putT (.var 11) [(.var 7), (.var 4)] (.con (.bl true))],
    .ret (.bi .tuple (.cmph false (.bi .tuple (.cmph false (.bi .int (.and [(.cmp .NotEq (.var 4) (.var 7)), (.cmp .NotEq (.inT false [(.var 4), (.var 7)] (.var 11)) (.var 10))])) (.nm 7) (.rng1 (.var 2)) [] [7])) (.nm 4) (.rng1 (.var 2)) [] [4]))]⟩
abbrev d24 : Df := ⟨"_law_is_web", top 34, ["value", "row", "x", "b", "a"], ["value"]⟩
def f24 : Fn := ⟨1, 5, false, [
    .iff (.or [(.not (.isi (.var 0) [.tuple])), (.not (.chn .LtE .LtE (.con (.int 2)) (.bi .len (.var 0)) (.con (.int 64))))]) [.ret (.con (.bl false))] [],
    .for (.nm 1) (.seq (.var 0)) [.iff (.or [(.not (.isi (.var 1) [.tuple])), (.cmp .NotEq (.bi .len (.var 1)) (.bi .len (.var 0))), (.not (.bi .all (.cmph false (.and [(.call 18 [(.var 2)]), (.chn .LtE .LtE (.con (.int 0)) (.var 2) (.con (.int 1)))]) (.nm 2) (.seq (.var 1)) [] [2])))]) [.ret (.con (.bl false))] []],
    .ret (.bi .all (.cmph false (.and [(.cmp .Eq (.ix (.ix (.var 0) (.var 4)) (.var 4)) (.con (.int 0))), (.bi .all (.cmph false (.cmp .Eq (.ix (.ix (.var 0) (.var 4)) (.var 3)) (.ix (.ix (.var 0) (.var 3)) (.var 4))) (.nm 3) (.rng1 (.var 4)) [] [3]))]) (.nm 4) (.rng1 (.bi .len (.var 0))) [] [4]))]⟩
abbrev d25 : Df := ⟨"_law_told", top 35, ["which", "T"], ["which", "T"]⟩
def f25 : Fn := ⟨2, 2, false, [
    .try1 [.ret (.tup [(.con (.str [116, 111, 108, 100])), (.call 16 [(.ite (.cmp .Eq (.var 0) (.con (.int 0))) (.call 12 [(.var 1)]) (.call 10 [(.var 1), (.con .non)]))])])] [(0, (.tup [(.str [109, 97, 108, 102, 111, 114, 109, 101, 100]), .non]))]]⟩
abbrev d26 : Df := ⟨"_law_shared", top 36, ["T", "a", "b", "c"], ["T", "a", "b"]⟩
def f26 : Fn := ⟨3, 4, false, [
    .ret (.bi .sum (.cmph false (.bin .Mult (.ix (.ix (.var 0) (.var 1)) (.var 3)) (.ix (.ix (.var 0) (.var 2)) (.var 3))) (.nm 3) (.rng1 (.bi .len (.var 0))) [] [3]))]⟩
abbrev d27 : Df := ⟨"_law_web_numbers", top 37, ["T", "v", "degrees", "joined", "apart", "row", "a", "b"], ["T"]⟩
def f27 : Fn := ⟨1, 8, false, [
    .asg 1 (.bi .len (.var 0)),
    .par3 2 3 4 (.cmph false (.bi .sum (.var 5)) (.nm 5) (.seq (.var 0)) [] [5]) (.lst true []) (.lst true []),
    .for (.nm 6) (.rng1 (.var 1)) [.for (.nm 7) (.rng1 (.var 6)) [.iff (.cmp .Eq (.ix (.ix (.var 0) (.var 6)) (.var 7)) (.con (.int 1))) [.ex (.me .append (.var 3) [(.call 26 [(.var 0), (.var 6), (.var 7)])])] [.ex (.me .append (.var 4) [(.call 26 [(.var 0), (.var 6), (.var 7)])])]]],
    .iff (.or [(.cmp .NotEq (.lset (.var 2)) (.con (.int 1))), (.not (.chn .LtE .LtE (.con (.int 1)) (.ix (.var 2) (.con (.int 0))) (.bin .Sub (.var 1) (.con (.int 2))))), (.cmp .NotEq (.lset (.var 3)) (.con (.int 1))), (.cmp .NotEq (.lset (.var 4)) (.con (.int 1)))]) [.ret (.con .non)] [],
    .ret (.tup [(.ix (.var 2) (.con (.int 0))), (.ix (.var 3) (.con (.int 0))), (.ix (.var 4) (.con (.int 0)))])]⟩
abbrev d28 : Df := ⟨"_law_is_pair", top 38, ["T", "e", "x", "a"], ["T", "e", "x"]⟩
def f28 : Fn := ⟨3, 4, false, [
    .iff (.or [(.not (.isi (.var 1) [.tuple])), (.cmp .NotEq (.bi .len (.var 1)) (.con (.int 2))), (.not (.bi .all (.cmph false (.and [(.call 18 [(.var 3)]), (.chn .LtE .Lt (.con (.int 0)) (.var 3) (.bi .len (.var 0)))]) (.nm 3) (.seq (.var 1)) [] [3])))]) [.ret (.con (.bl false))] [],
    .ret (.and [(.cmp .NotEq (.ix (.var 1) (.con (.int 0))) (.ix (.var 1) (.con (.int 1)))), (.cmp .Eq (.ix (.ix (.var 0) (.ix (.var 1) (.con (.int 0)))) (.ix (.var 1) (.con (.int 1)))) (.var 2))])]⟩
abbrev d29 : Df := ⟨"_law_holds", top 39, ["T", "numbers", "paper", "v", "row", "a", "word", "x"], ["T", "numbers", "paper"]⟩
def f29 : Fn := ⟨3, 8, false, [
    .asg 3 (.bi .len (.var 0)),
    .iff (.call 21 [(.var 2), (.con (.str [119, 101, 98])), (.con (.int 4))]) [.ret (.and [(.cmp .IsNot (.var 1) (.con .non)), (.call 19 [(.sl (.var 2) (some (.con (.int 1))) none), (.var 1)])])] [],
    .iff (.call 21 [(.var 2), (.con (.str [119, 104, 111, 108, 101])), (.con (.int 1))]) [.ret (.isIn false (.bi .sum (.cmph false (.bi .sum (.var 4)) (.nm 4) (.seq (.var 0)) [] [4])) (.tup [(.con (.int 0)), (.bin .Mult (.var 3) (.bin .Sub (.var 3) (.con (.int 1))))]))] [],
    .iff (.call 21 [(.var 2), (.con (.str [118, 97, 108, 101, 110, 99, 121])), (.con (.int 3))]) [.ret (.and [(.bi .all (.cmph false (.and [(.call 18 [(.var 5)]), (.chn .LtE .Lt (.con (.int 0)) (.var 5) (.var 3))]) (.nm 5) (.seq (.sl (.var 2) (some (.con (.int 1))) none)) [] [5])), (.cmp .NotEq (.bi .sum (.ix (.var 0) (.ix (.var 2) (.con (.int 1))))) (.bi .sum (.ix (.var 0) (.ix (.var 2) (.con (.int 2))))))])] [],
    .for (.tp [6, 7]) (.seq (.tup [(.tup [(.con (.str [106, 111, 105, 110, 101, 100])), (.con (.int 1))]), (.tup [(.con (.str [97, 112, 97, 114, 116])), (.con (.int 0))])])) [.iff (.call 21 [(.var 2), (.var 6), (.con (.int 3))]) [.iff (.or [(.not (.call 28 [(.var 0), (.ix (.var 2) (.con (.int 1))), (.var 7)])), (.not (.call 28 [(.var 0), (.ix (.var 2) (.con (.int 2))), (.var 7)]))]) [.ret (.con (.bl false))] [], .ret (.cmp .NotEq (.call 26 [(.var 0), (.ix (.ix (.var 2) (.con (.int 1))) (.con (.int 0))), (.ix (.ix (.var 2) (.con (.int 1))) (.con (.int 1)))]) (.call 26 [(.var 0), (.ix (.ix (.var 2) (.con (.int 2))) (.con (.int 0))), (.ix (.ix (.var 2) (.con (.int 2))) (.con (.int 1)))]))] []],
    .ret (.con (.bl false))]⟩
abbrev d30 : Df := ⟨"_law_web_right", top 40, ["state", "T", "numbers", "told", "v", "tries", "turn", "a", "b", "c", "d", "k", "paper"], ["state", "T"]⟩
def f30 : Fn := ⟨2, 13, false, [
    .asgT [2, 3, 4] (.tup [(.call 27 [(.var 1)]), (.call 25 [(.con (.int 0)), (.var 1)]), (.bi .len (.var 1))]),
    .iff (.or [(.cmp .NotEq (.ix (.var 3) (.con (.int 0))) (.con (.str [116, 111, 108, 100]))), (.not (.call 29 [(.var 1), (.var 2), (.ix (.var 3) (.con (.int 1)))])), (.cmp .NotEq (.cmp .Eq (.ix (.ix (.var 3) (.con (.int 1))) (.con (.int 0))) (.con (.str [119, 101, 98]))) (.cmp .IsNot (.var 2) (.con .non)))]) [.ret (.con (.bl false))] [],
    .asg 5 (.lst false [(.ix (.var 3) (.con (.int 1))), (.lof false (.ix (.var 3) (.con (.int 1)))), (.bin .Add (.ix (.var 3) (.con (.int 1))) (.tup [(.con (.int 0))])), (.sl (.ix (.var 3) (.con (.int 1))) none (some (.neg (.con (.int 1))))), (.con .non), (.tup []), (.con (.int 5)), (.con (.str [119, 101, 98])), (.tup [(.con (.str [119, 104, 111, 108, 101]))]), (.tup [(.con (.str [119, 104, 111, 108, 101])), (.con (.int 0))]), (.tup [(.con (.str [119, 101, 98])), (.con (.int 2)), (.con (.int 0)), (.con (.int 2))]), (.tup [(.con (.str [118, 97, 108, 101, 110, 99, 121])), (.con (.int 0)), (.var 4)]), (.tup [(.con (.str [118, 97, 108, 101, 110, 99, 121])), (.con (.int 0)), (.con (.bl true))]), (.tup [(.con (.str [106, 111, 105, 110, 101, 100])), (.tup [(.con (.int 0)), (.con (.int 1))]), (.con .non)])]),
    .iff (.cmp .IsNot (.var 2) (.con .non)) [.asg 5 (.bin .Add (.var 5) (.lst false [(.bin .Add (.tup [(.con (.str [119, 101, 98]))]) (.var 2)), (.bin .Add (.tup [(.con (.str [119, 101, 98]))]) (.rev (.var 2))), (.tup [(.con (.str [119, 101, 98])), (.ix (.var 2) (.con (.int 0))), (.ix (.var 2) (.con (.int 1))), (.bin .Add (.ix (.var 2) (.con (.int 2))) (.con (.int 1)))]), (.tup [(.con (.str [119, 101, 98])), (.var 2)])]))] [],
    .for (.nm 6) (.rng1 (.con (.int 12))) [.asgT [7, 8, 9, 10] (.cmph false (.call 14 [(.var 0), (.var 4)]) (.nm 11) (.rng1 (.con (.int 4))) [] [11]), .asg 5 (.bin .Add (.var 5) (.lst false [(.tup [(.con (.str [118, 97, 108, 101, 110, 99, 121])), (.var 7), (.var 8)]), (.tup [(.con (.str [106, 111, 105, 110, 101, 100])), (.tup [(.var 7), (.var 8)]), (.tup [(.var 9), (.var 10)])]), (.tup [(.con (.str [97, 112, 97, 114, 116])), (.tup [(.var 7), (.var 8)]), (.tup [(.var 9), (.var 10)])]), (.tup [(.con (.str [97, 112, 97, 114, 116])), (.tup [(.var 7), (.var 7)]), (.tup [(.var 9), (.var 10)])]), (.tup [(.con (.str [106, 111, 105, 110, 101, 100])), (.lst false [(.var 7), (.var 8)]), (.tup [(.var 9), (.var 10)])])]))],
    .ret (.bi .all (.cmph false (.call 17 [(.call 10 [(.var 1), (.var 12)]), (.call 29 [(.var 1), (.var 2), (.var 12)])]) (.nm 12) (.seq (.bin .Add (.var 5) (.cmph false (.call 20 [(.var 0), (.ix (.var 3) (.con (.int 1))), (.con (.int 0))]) (.nm 6) (.rng1 (.con (.int 8))) [] [6]))) [] [12]))]⟩
abbrev d31 : Df := ⟨"law", top 41, ["script", "state", "turn", "T", "a", "b", "bent", "row", "near", "bad"], ["script"]⟩
def f31 : Fn := ⟨1, 10, false, [
    .asg 1 (.call 13 [(.var 0)]),
    .for (.nm 2) (.rng1 (.con (.int 4))) [.asg 3 (.call 23 [(.var 1)]), .par2 4 5 (.call 14 [(.var 1), (.bi .len (.var 3))]) (.call 14 [(.var 1), (.bi .len (.var 3))]), .asg 6 (.cmph true (.lof true (.var 7)) (.nm 7) (.seq (.var 3)) [] [7]), .iff (.cmp .NotEq (.var 4) (.var 5)) [.asgS (.ix (.var 6) (.var 4)) (.var 5) (.bin .Sub (.con (.int 1)) (.ix (.ix (.var 6) (.var 4)) (.var 5))), .asgS (.ix (.var 6) (.var 5)) (.var 4) (.ix (.ix (.var 6) (.var 4)) (.var 5))] [], .iff (.or [(.not (.call 30 [(.var 1), (.var 3)])), (.not (.call 30 [(.var 1), (.bi .tuple (.cmph false (.bi .tuple (.var 7)) (.nm 7) (.seq (.var 6)) [] [7]))]))]) [.ret (.con (.bl false))] []],
    .for (.nm 3) (.seq (.tup [(.tup [(.tup [(.con (.int 0)), (.con (.int 1))]), (.tup [(.con (.int 1)), (.con (.int 0))])]), (.tup [(.tup [(.con (.int 0)), (.con (.int 0))]), (.tup [(.con (.int 0)), (.con (.int 0))])]), (.tup [(.tup [(.con (.int 0)), (.con (.int 1)), (.con (.int 1))]), (.tup [(.con (.int 1)), (.con (.int 0)), (.con (.int 1))]), (.tup [(.con (.int 1)), (.con (.int 1)), (.con (.int 0))])]), (.tup [(.tup [(.con (.int 0)), (.con (.int 0)), (.con (.int 1))]), (.tup [(.con (.int 0)), (.con (.int 0)), (.con (.int 1))]), (.tup [(.con (.int 1)), (.con (.int 1)), (.con (.int 0))])])])) [.iff (.not (.call 30 [(.var 1), (.var 3)])) [.ret (.con (.bl false))] []],
    .asg 3 (.call 23 [(.var 1)]),
    .asg 8 (.lst false [(.con .non), (.con (.int 5)), (.tup []), (.tup [(.tup [(.con (.int 0))])]), (.lof false (.var 3)), (.sl (.var 3) none (some (.neg (.con (.int 1))))), (.rev (.var 3)), (.tup [(.tup [(.con (.int 0)), (.con (.int 1))]), (.tup [(.con (.int 0)), (.con (.int 0))])]), (.tup [(.tup [(.con (.int 1)), (.con (.int 0))]), (.tup [(.con (.int 0)), (.con (.int 1))])]), (.tup [(.tup [(.con (.int 0)), (.con (.int 2))]), (.tup [(.con (.int 2)), (.con (.int 0))])]), (.tup [(.tup [(.con (.int 0)), (.con (.bl true))]), (.tup [(.con (.bl true)), (.con (.int 0))])]), (.tup [(.lst false [(.con (.int 0)), (.con (.int 1))]), (.lst false [(.con (.int 1)), (.con (.int 0))])]), (.bin .Mult (.tup [(.bin .Mult (.tup [(.con (.int 0))]) (.con (.int 65)))]) (.con (.int 65))), (.tup [(.tup [(.con (.int 0)), (.con (.int 1)), (.con (.int 0))]), (.tup [(.con (.int 1)), (.con (.int 0)), (.con (.int 0))])])]),
    .for (.nm 9) (.seq (.var 8)) [.iff (.and [(.not (.call 24 [(.var 9)])), (.or [(.cmp .NotEq (.ix (.call 25 [(.con (.int 0)), (.var 9)]) (.con (.int 0))) (.con (.str [109, 97, 108, 102, 111, 114, 109, 101, 100]))), (.cmp .NotEq (.ix (.call 25 [(.con (.int 1)), (.var 9)]) (.con (.int 0))) (.con (.str [109, 97, 108, 102, 111, 114, 109, 101, 100])))])]) [.ret (.con (.bl false))] []],
    .ret (.con (.bl true))]⟩
def theLaw : LawD where
  defs := [d0, d1, d2, d3, d4, d5, d6, d7, d8, d9, d10, d11, d12, d13, d14, d15, d16, d17, d18, d19, d20, d21, d22, d23, d24, d25, d26, d27, d28, d29, d30, d31]
  fns := [f0, f1, f2, f3, f4, f5, f6, f7, f8, f9, f10, f11, f12, f13, f14, f15, f16, f17, f18, f19, f20, f21, f22, f23, f24, f25, f26, f27, f28, f29, f30, f31]
  nums := [("LEAST_POINTS", 2), ("MOST_POINTS", 64)]
  clss := ["Malformed"]
  bltn := ["isinstance", "int", "bool", "tuple", "len", "all", "range", "sum", "zip", "any", "str", "enumerate", "abs", "list", "set"]
set_option maxRecDepth 100000 in
theorem b0 : bodyB theLaw.tab d0 f0 = true := by decide +kernel
theorem n0 : BindsOk d0 := fun _ _ _ _ _ _ us hl => match us, hl with | [_], _ => rfl
set_option maxRecDepth 100000 in
theorem b1 : bodyB theLaw.tab d1 f1 = true := by decide +kernel
theorem n1 : BindsOk d1 := fun _ _ _ _ _ _ us hl => match us, hl with | [_], _ => rfl
set_option maxRecDepth 100000 in
theorem b2 : bodyB theLaw.tab d2 f2 = true := by decide +kernel
theorem n2 : BindsOk d2 := fun _ _ _ _ _ _ us hl => match us, hl with | [_], _ => rfl
set_option maxRecDepth 100000 in
theorem b3 : bodyB theLaw.tab d3 f3 = true := by decide +kernel
theorem n3 : BindsOk d3 := fun _ _ _ _ _ _ us hl => match us, hl with | [_, _, _], _ => rfl
set_option maxRecDepth 100000 in
theorem b4 : bodyB theLaw.tab d4 f4 = true := by decide +kernel
theorem n4 : BindsOk d4 := fun _ _ _ _ _ _ us hl => match us, hl with | [_], _ => rfl
set_option maxRecDepth 100000 in
theorem b5 : bodyB theLaw.tab d5 f5 = true := by decide +kernel
theorem n5 : BindsOk d5 := fun _ _ _ _ _ _ us hl => match us, hl with | [_, _, _], _ => rfl
set_option maxRecDepth 100000 in
theorem b6 : bodyB theLaw.tab d6 f6 = true := by decide +kernel
theorem n6 : BindsOk d6 := fun _ _ _ _ _ _ us hl => match us, hl with | [_, _], _ => rfl
set_option maxRecDepth 100000 in
theorem b7 : bodyB theLaw.tab d7 f7 = true := by decide +kernel
theorem n7 : BindsOk d7 := fun _ _ _ _ _ _ us hl => match us, hl with | [_, _, _], _ => rfl
set_option maxRecDepth 100000 in
theorem b8 : bodyB theLaw.tab d8 f8 = true := by decide +kernel
theorem n8 : BindsOk d8 := fun _ _ _ _ _ _ us hl => match us, hl with | [_, _, _, _], _ => rfl
set_option maxRecDepth 100000 in
theorem b9 : bodyB theLaw.tab d9 f9 = true := by decide +kernel
theorem n9 : BindsOk d9 := fun _ _ _ _ _ _ us hl => match us, hl with | [_, _, _], _ => rfl
set_option maxRecDepth 100000 in
theorem b10 : bodyB theLaw.tab d10 f10 = true := by decide +kernel
theorem n10 : BindsOk d10 := fun _ _ _ _ _ _ us hl => match us, hl with | [_, _], _ => rfl
set_option maxRecDepth 100000 in
theorem b11 : bodyB theLaw.tab d11 f11 = true := by decide +kernel
theorem n11 : BindsOk d11 := fun _ _ _ _ _ _ us hl => match us, hl with | [_, _], _ => rfl
set_option maxRecDepth 100000 in
theorem b12 : bodyB theLaw.tab d12 f12 = true := by decide +kernel
theorem n12 : BindsOk d12 := fun _ _ _ _ _ _ us hl => match us, hl with | [_], _ => rfl
set_option maxRecDepth 100000 in
theorem b13 : bodyB theLaw.tab d13 f13 = true := by decide +kernel
theorem n13 : BindsOk d13 := fun _ _ _ _ _ _ us hl => match us, hl with | [_], _ => rfl
set_option maxRecDepth 100000 in
theorem b14 : bodyB theLaw.tab d14 f14 = true := by decide +kernel
theorem n14 : BindsOk d14 := fun _ _ _ _ _ _ us hl => match us, hl with | [_, _], _ => rfl
set_option maxRecDepth 100000 in
theorem b15 : bodyB theLaw.tab d15 f15 = true := by decide +kernel
theorem n15 : BindsOk d15 := fun _ _ _ _ _ _ us hl => match us, hl with | [_], _ => rfl
set_option maxRecDepth 100000 in
theorem b16 : bodyB theLaw.tab d16 f16 = true := by decide +kernel
theorem n16 : BindsOk d16 := fun _ _ _ _ _ _ us hl => match us, hl with | [_], _ => rfl
set_option maxRecDepth 100000 in
theorem b17 : bodyB theLaw.tab d17 f17 = true := by decide +kernel
theorem n17 : BindsOk d17 := fun _ _ _ _ _ _ us hl => match us, hl with | [_, _], _ => rfl
set_option maxRecDepth 100000 in
theorem b18 : bodyB theLaw.tab d18 f18 = true := by decide +kernel
theorem n18 : BindsOk d18 := fun _ _ _ _ _ _ us hl => match us, hl with | [_], _ => rfl
set_option maxRecDepth 100000 in
theorem b19 : bodyB theLaw.tab d19 f19 = true := by decide +kernel
theorem n19 : BindsOk d19 := fun _ _ _ _ _ _ us hl => match us, hl with | [_, _], _ => rfl
set_option maxRecDepth 100000 in
theorem b20 : bodyB theLaw.tab d20 f20 = true := by decide +kernel
theorem n20 : BindsOk d20 := fun _ _ _ _ _ _ us hl => match us, hl with | [_, _, _], _ => rfl
set_option maxRecDepth 100000 in
theorem b21 : bodyB theLaw.tab d21 f21 = true := by decide +kernel
theorem n21 : BindsOk d21 := fun _ _ _ _ _ _ us hl => match us, hl with | [_, _, _], _ => rfl
set_option maxRecDepth 100000 in
theorem b22 : bodyB theLaw.tab d22 f22 = true := by decide +kernel
theorem n22 : BindsOk d22 := fun _ _ _ _ _ _ us hl => match us, hl with | [_, _], _ => rfl
set_option maxRecDepth 100000 in
theorem b23 : bodyB theLaw.tab d23 f23 = true := by decide +kernel
theorem n23 : BindsOk d23 := fun _ _ _ _ _ _ us hl => match us, hl with | [_], _ => rfl
set_option maxRecDepth 100000 in
theorem b24 : bodyB theLaw.tab d24 f24 = true := by decide +kernel
theorem n24 : BindsOk d24 := fun _ _ _ _ _ _ us hl => match us, hl with | [_], _ => rfl
set_option maxRecDepth 100000 in
theorem b25 : bodyB theLaw.tab d25 f25 = true := by decide +kernel
theorem n25 : BindsOk d25 := fun _ _ _ _ _ _ us hl => match us, hl with | [_, _], _ => rfl
set_option maxRecDepth 100000 in
theorem b26 : bodyB theLaw.tab d26 f26 = true := by decide +kernel
theorem n26 : BindsOk d26 := fun _ _ _ _ _ _ us hl => match us, hl with | [_, _, _], _ => rfl
set_option maxRecDepth 100000 in
theorem b27 : bodyB theLaw.tab d27 f27 = true := by decide +kernel
theorem n27 : BindsOk d27 := fun _ _ _ _ _ _ us hl => match us, hl with | [_], _ => rfl
set_option maxRecDepth 100000 in
theorem b28 : bodyB theLaw.tab d28 f28 = true := by decide +kernel
theorem n28 : BindsOk d28 := fun _ _ _ _ _ _ us hl => match us, hl with | [_, _, _], _ => rfl
set_option maxRecDepth 100000 in
theorem b29 : bodyB theLaw.tab d29 f29 = true := by decide +kernel
theorem n29 : BindsOk d29 := fun _ _ _ _ _ _ us hl => match us, hl with | [_, _, _], _ => rfl
set_option maxRecDepth 100000 in
theorem b30 : bodyB theLaw.tab d30 f30 = true := by decide +kernel
theorem n30 : BindsOk d30 := fun _ _ _ _ _ _ us hl => match us, hl with | [_, _], _ => rfl
set_option maxRecDepth 100000 in
theorem b31 : bodyB theLaw.tab d31 f31 = true := by decide +kernel
theorem n31 : BindsOk d31 := fun _ _ _ _ _ _ us hl => match us, hl with | [_], _ => rfl
theorem law_ok : LawOk theLaw where
  len := rfl
  body := fun i d f h1 h2 => match i, h1, h2 with
    | 0, h1, h2 => by cases h1; cases h2; exact b0
    | 1, h1, h2 => by cases h1; cases h2; exact b1
    | 2, h1, h2 => by cases h1; cases h2; exact b2
    | 3, h1, h2 => by cases h1; cases h2; exact b3
    | 4, h1, h2 => by cases h1; cases h2; exact b4
    | 5, h1, h2 => by cases h1; cases h2; exact b5
    | 6, h1, h2 => by cases h1; cases h2; exact b6
    | 7, h1, h2 => by cases h1; cases h2; exact b7
    | 8, h1, h2 => by cases h1; cases h2; exact b8
    | 9, h1, h2 => by cases h1; cases h2; exact b9
    | 10, h1, h2 => by cases h1; cases h2; exact b10
    | 11, h1, h2 => by cases h1; cases h2; exact b11
    | 12, h1, h2 => by cases h1; cases h2; exact b12
    | 13, h1, h2 => by cases h1; cases h2; exact b13
    | 14, h1, h2 => by cases h1; cases h2; exact b14
    | 15, h1, h2 => by cases h1; cases h2; exact b15
    | 16, h1, h2 => by cases h1; cases h2; exact b16
    | 17, h1, h2 => by cases h1; cases h2; exact b17
    | 18, h1, h2 => by cases h1; cases h2; exact b18
    | 19, h1, h2 => by cases h1; cases h2; exact b19
    | 20, h1, h2 => by cases h1; cases h2; exact b20
    | 21, h1, h2 => by cases h1; cases h2; exact b21
    | 22, h1, h2 => by cases h1; cases h2; exact b22
    | 23, h1, h2 => by cases h1; cases h2; exact b23
    | 24, h1, h2 => by cases h1; cases h2; exact b24
    | 25, h1, h2 => by cases h1; cases h2; exact b25
    | 26, h1, h2 => by cases h1; cases h2; exact b26
    | 27, h1, h2 => by cases h1; cases h2; exact b27
    | 28, h1, h2 => by cases h1; cases h2; exact b28
    | 29, h1, h2 => by cases h1; cases h2; exact b29
    | 30, h1, h2 => by cases h1; cases h2; exact b30
    | 31, h1, h2 => by cases h1; cases h2; exact b31
    | i + 32, h1, _ => by cases h1
  binds := fun d hd => by
    have hd : d ∈ [d0, d1, d2, d3, d4, d5, d6, d7, d8, d9, d10, d11, d12, d13, d14, d15, d16, d17, d18, d19, d20, d21, d22, d23, d24, d25, d26, d27, d28, d29, d30, d31] := hd
    simp only [List.mem_cons, List.not_mem_nil, or_false] at hd
    rcases hd with rfl | rfl | rfl | rfl | rfl | rfl | rfl | rfl | rfl | rfl | rfl | rfl | rfl | rfl | rfl | rfl | rfl | rfl | rfl | rfl | rfl | rfl | rfl | rfl | rfl | rfl | rfl | rfl | rfl | rfl | rfl | rfl
    · exact n0
    · exact n1
    · exact n2
    · exact n3
    · exact n4
    · exact n5
    · exact n6
    · exact n7
    · exact n8
    · exact n9
    · exact n10
    · exact n11
    · exact n12
    · exact n13
    · exact n14
    · exact n15
    · exact n16
    · exact n17
    · exact n18
    · exact n19
    · exact n20
    · exact n21
    · exact n22
    · exact n23
    · exact n24
    · exact n25
    · exact n26
    · exact n27
    · exact n28
    · exact n29
    · exact n30
    · exact n31
-- law index 31, top 41; loose: 
end K84
end
section
set_option maxRecDepth 100000
set_option maxHeartbeats 1000000
/-! K84m: what the defs of law k84 compute. -/
namespace K84
open DI
abbrev P : List Fn := theLaw.fns
def isIntB : D → Bool
  | .int _ => true
  | _ => false
/-- 0 or 1 -/
def bitB : D → Bool
  | .int i => decide (0 ≤ i) && decide (i ≤ 1)
  | _ => false
def rowB (v : Nat) : D → Bool
  | .tup xs => decide (xs.length = v) && xs.all bitB
  | _ => false
/-- the entry at a, b -/
def ent (rows : List D) (a b : Nat) : Int := match rows[a]? with
  | some (.tup xs) => (match xs[b]? with
    | some (.int i) => i
    | _ => 0)
  | _ => 0
def webB : D → Bool
  | .tup rows => decide (2 ≤ rows.length) && decide (rows.length ≤ 64) && rows.all (rowB rows.length) && (List.range rows.length).all fun a => decide (ent rows a a = 0) && (List.range a).all fun b => decide (ent rows a b = ent rows b a)
  | _ => false
section
variable {n d : Nat} {S : Store}
theorem s_is_integer {x : D} (hx : pd x = true) : callF P n (d + 1) 0 [x] S = .ok (.bl (isIntB x)) S := by
  refine call_pure (f := f0) rfl rfl rfl rfl (wp_cons ?_)
  cases x <;> first | (cases hx; done) | (simp [exec, f0, evalE, evalAnd, liveD, isTys, isTy, wpF, bindF, isIntB]; done)
theorem rows_at {rows : List D} {v : Nat} (h : rows.all (rowB v) = true) {a : Nat} (ha : a < rows.length) : ∃ xs, rows[a]? = some (.tup xs) ∧ xs.length = v ∧ ∀ b, b < v → xs[b]? = some (.int (ent rows a b)) := by
  have hr := List.all_eq_true.mp h rows[a] (List.getElem_mem ha)
  have e0 : rows[a]? = some rows[a] := List.getElem?_eq_getElem ha
  cases e : rows[a] with
  | tup xs =>
    rw [e] at hr e0
    simp only [rowB, Bool.and_eq_true, decide_eq_true_eq] at hr
    refine ⟨xs, e0, hr.1, fun b hb => ?_⟩
    have hb' : b < xs.length := by rw [hr.1]; exact hb
    have hx := List.all_eq_true.mp hr.2 xs[b] (List.getElem_mem hb')
    have e1 : xs[b]? = some xs[b] := List.getElem?_eq_getElem hb'
    cases e2 : xs[b] with
    | int i =>
      rw [e2] at e1
      have : ent rows a b = i := by unfold ent; rw [e0]; simp only [e1]
      rw [this]; exact e1
    | _ => rw [e2] at hx; cases hx
  | _ => rw [e] at hr; cases hr
theorem e_ent {cf : Nat → List D → Store → R D} {s : Sl} {S : Store} {rows : List D} {v : Nat} {A B C : E} {a b : Nat} (h : rows.all (rowB v) = true) (hA : evalE cf A s S = .ok (.tup rows) S) (hB : evalE cf B s S = .ok (.int (a : Int)) S) (hC : evalE cf C s S = .ok (.int (b : Int)) S) (ha : a < rows.length) (hb : b < v) :
    evalE cf (.ix (.ix A B) C) s S = .ok (.int (ent rows a b)) S := by
  obtain ⟨xs, h1, h2, h3⟩ := rows_at h ha
  exact ev_ix (ev_ix hA hB h1) hC (h3 b hb)
/-- the last line of is_web -/
theorem e_sym {cf : Nat → List D → Store → R D} {S : Store} {rows : List D} {L : E} {s : Sl} {ia ib : Nat} (h : rows.all (rowB rows.length) = true) (hl : rows.length ≤ 64) (h1 : ia < s.length) (h2 : ib < s.length) (h3 : ia ≠ 0) (h4 : ib ≠ 0) (h5 : ia ≠ ib) (hA : s[0]? = some (some (.tup rows))) (hL : evalE cf L s S = .ok (.int rows.length) S) :
    evalE cf (.bi .all (.cmph false (.and [(.cmp .Eq (.ix (.ix (.var 0) (.var ia)) (.var ia)) (.con (.int 0))), (.bi .all (.cmph false (.cmp .Eq (.ix (.ix (.var 0) (.var ia)) (.var ib)) (.ix (.ix (.var 0) (.var ib)) (.var ia))) (.nm ib) (.rng1 (.var ia)) [] [ib]))]) (.nm ia) (.rng1 L) [] [ia])) s S =
      .ok (.bl ((List.range rows.length).all fun a => decide (ent rows a a = 0) && (List.range a).all fun b => decide (ent rows a b = ent rows b a))) S := by
  refine ev_all_rng (fun a => decide (ent rows a a = 0) && (List.range a).all fun b => decide (ent rows a b = ent rows b a)) (it_rng hL (by omega)) (by omega) fun a ha => ⟨_, rfl, ?_⟩
  have hs1 : ∀ s', s' = (wipeD s [ia]).set ia (some (.int (a : Int))) → s'[0]? = some (some (.tup rows)) ∧ s'[ia]? = some (some (.int (a : Int))) ∧ ib < s'.length := fun s' e => by
    subst e
    simp only [wipeD]
    refine ⟨?_, ?_, by simpa using h2⟩
    · rw [List.getElem?_set_ne h3, List.getElem?_set_ne h3]; exact hA
    · rw [List.getElem?_set_self (by simpa using h1)]
  obtain ⟨q0, q1, q2⟩ := hs1 _ rfl
  generalize (wipeD s [ia]).set ia (some (.int (a : Int))) = s1 at q0 q1 q2 ⊢
  refine ev_and (ev_eqi (e_ent h (ev_var q0) (ev_var q1) (ev_var q1) ha ha) ev_con) fun _ => ev_and1 ?_
  refine ev_all_rng (fun b => decide (ent rows a b = ent rows b a)) (it_rng (ev_var q1) (by omega)) (by omega) fun b hb => ⟨_, rfl, ?_⟩
  have g0 : ((wipeD s1 [ib]).set ib (some (.int (b : Int))))[0]? = some (some (.tup rows)) := by
    simp only [wipeD]
    rw [List.getElem?_set_ne h4, List.getElem?_set_ne h4]; exact q0
  have g1 : ((wipeD s1 [ib]).set ib (some (.int (b : Int))))[ia]? = some (some (.int (a : Int))) := by
    simp only [wipeD]
    rw [List.getElem?_set_ne (Ne.symm h5), List.getElem?_set_ne (Ne.symm h5)]; exact q1
  have g2 : ((wipeD s1 [ib]).set ib (some (.int (b : Int))))[ib]? = some (some (.int (b : Int))) := by
    simp only [wipeD]
    rw [List.getElem?_set_self (by simpa using q2)]
  exact ev_eqi (e_ent h (ev_var g0) (ev_var g1) (ev_var g2) ha (by omega)) (e_ent h (ev_var g0) (ev_var g2) (ev_var g1) (by omega) ha)
/-- is_web -/
theorem s_is_web {x : D} (hx : pd x = true) : callF P n (d + 2) 1 [x] S = .ok (.bl (webB x)) S := by
  refine call_pure (f := f1) rfl rfl rfl rfl ?_
  have e0 : ∀ (s : Sl) (S : Store), evalE (callF P n (d + 1)) (.var 0) (some x :: s) S = .ok x S := fun s S => ev_var rfl
  cases x with
  | tup rows =>
    have hrows := pd_tup.mp hx
    refine wp_cons (wp_iff (S1 := S) (p := !isTyB (.tup rows) .tuple || !(decide ((2 : Int) ≤ rows.length) && decide ((rows.length : Int) ≤ 64))) (ev_or (ev_not (ev_isi (e0 _ _) hx)) fun _ => ev_or1 (ev_not (ev_chn ev_con (ev_len (e0 _ _)) cmp_le (fun _ => ev_con) fun _ => cmp_le))) (fun h => ?_) fun h => ?_)
    · refine wp_ret (S1 := S) ev_con ⟨?_, [], by simp⟩
      simp [isTyB, isTy] at h
      simp only [webB]
      congr 1
      symm
      by_cases h2 : 2 ≤ rows.length
      · have : ¬ rows.length ≤ 64 := by omega
        simp [this]
      · simp [h2]
    · simp [isTyB, isTy] at h
      have hl1 : 2 ≤ rows.length := by omega
      have hl2 : rows.length ≤ 64 := by omega
      refine wp_nil ?_
      refine wp_cons (wp_asg (S1 := S) (x := .int rows.length) (ev_len (e0 _ _)) ?_)
      refine wp_cons (wp_for (S1 := S) (src := .imm true rows) (ds := rows) (fun i s S' => S' = S ∧ (∃ r, s = [some (.tup rows), some (.int rows.length), r, none, none, none]) ∧ ∀ j, j < i → (rows[j]?.map (rowB rows.length)) ≠ some false) (it_seq (e0 _ _)) (fun _ _ _ _ => rfl) ⟨rfl, ⟨none, rfl⟩, fun j hj => absurd hj (Nat.not_lt_zero _)⟩ ?_ ?_)
      · rintro i r s S' hi ⟨rfl, ⟨r0, rfl⟩, hj⟩
        have hr := hrows r (List.mem_of_getElem? hi)
        refine ⟨_, rfl, ?_⟩
        have er : ∀ (S : Store), evalE (callF P n (d + 1)) (.var 2) [some (.tup rows), some (.int rows.length), some r, none, none, none] S = .ok r S := fun S => ev_var rfl
        have next : rowB rows.length r = true → ∀ j, j < i + 1 → (rows[j]?.map (rowB rows.length)) ≠ some false := fun hb j hlt => by
          by_cases e : j = i
          · subst e; rw [hi]; simp [hb]
          · exact hj j (by omega)
        have bad : rowB rows.length r = false → webB (.tup rows) = false := fun hb => by
          have : rows.all (rowB rows.length) = false := List.all_eq_false.mpr ⟨r, List.mem_of_getElem? hi, by simp [hb]⟩
          simp [webB, this]
        have done : ∀ p : Bool, p = !rowB rows.length r → evalE (callF P n (d + 1)) (.or [(.not (.isi (.var 2) [.tuple])), (.cmp .NotEq (.bi .len (.var 2)) (.var 1)), (.not (.bi .all (.cmph false (.and [(.call 0 [(.var 3)]), (.chn .LtE .LtE (.con (.int 0)) (.var 3) (.con (.int 1)))]) (.nm 3) (.seq (.var 2)) [] [3])))])
            [some (.tup rows), some (.int rows.length), some r, none, none, none] S' = .ok (.bl p) S' → wpF (execs (callF P n (d + 1)) n [.iff (.or [(.not (.isi (.var 2) [.tuple])), (.cmp .NotEq (.bi .len (.var 2)) (.var 1)), (.not (.bi .all (.cmph false (.and [(.call 0 [(.var 3)]), (.chn .LtE .LtE (.con (.int 0)) (.var 3) (.con (.int 1)))]) (.nm 3) (.seq (.var 2)) [] [3])))]) [.ret (.con (.bl false))] []]
            [some (.tup rows), some (.int rows.length), some r, none, none, none] S') { nx := fun s S'' => S'' = S' ∧ (∃ r, s = [some (.tup rows), some (.int rows.length), r, none, none, none]) ∧ ∀ j, j < i + 1 → (rows[j]?.map (rowB rows.length)) ≠ some false, ct := fun s S'' => S'' = S' ∧ (∃ r, s = [some (.tup rows), some (.int rows.length), r, none, none, none]) ∧ ∀ j, j < i + 1 → (rows[j]?.map (rowB rows.length)) ≠ some false, rt := fun dd S1 => dd = .bl (webB (.tup rows)) ∧ ∃ X, S1 = S' ++ X } := by
          intro p hp he
          refine wp_one (wp_iff he (fun h => wp_ret (S1 := S') ev_con ⟨?_, [], by simp⟩) fun h => ?_)
          · rw [bad (by rw [h] at hp; simpa using hp.symm)]
          · refine wp_nil ?_
            exact ⟨rfl, ⟨some r, rfl⟩, next (by rw [h] at hp; simpa using hp.symm)⟩
        cases r with
        | tup xs =>
          have hxs := pd_tup.mp hr
          by_cases hlen : xs.length = rows.length
          · refine wpF_imp (done (!isTyB (.tup xs) .tuple || (!decide ((xs.length : Int) = rows.length) || !(xs.all bitB))) ?_ ?_) (fun _ _ h => h) (fun _ _ h => h) (fun _ _ h => h.elim) (fun _ _ h => h) fun _ _ _ h => h.elim
            · have : ((xs.length : Int) = rows.length) := by omega
              simp [isTyB, isTy, rowB, hlen]
            · refine ev_or (ev_not (ev_isi (er _) hr)) fun _ => ev_or (ev_nei (ev_len (er _)) (ev_var rfl)) fun _ => ev_or1 (ev_not (ev_all bitB (it_seq (er _)) rfl (by simp only [lim]; omega) fun y hy => ⟨_, rfl, ?_⟩))
              have hy' := hxs y hy
              have e3 : ∀ (S : Store), evalE (callF P n (d + 1)) (.var 3) [some (.tup rows), some (.int rows.length), some (.tup xs), some y, none, none] S = .ok y S := fun S => ev_var rfl
              have hc := ev_call1 (f := 0) (e3 S') (s_is_integer (n := n) (d := d) (S := S') hy')
              cases y with
              | int j =>
                exact ev_and (q := decide (0 ≤ j) && decide (j ≤ 1)) hc fun _ => ev_and1 (ev_chn ev_con (e3 _) cmp_le (fun _ => ev_con) fun _ => cmp_le)
              | non => exact ev_and (q := false) hc (fun h => by cases h)
              | bl _ => exact ev_and (q := false) hc (fun h => by cases h)
              | str _ => exact ev_and (q := false) hc (fun h => by cases h)
              | tup _ => exact ev_and (q := false) hc (fun h => by cases h)
              | fl _ => exact ev_and (q := false) hc (fun h => by cases h)
              | kl _ => cases hy'
              | lst _ => cases hy'
              | dct _ => cases hy'
              | fn _ => cases hy'
          · refine wpF_imp (done (!isTyB (.tup xs) .tuple || (!decide ((xs.length : Int) = rows.length) || false)) ?_ ?_) (fun _ _ h => h) (fun _ _ h => h) (fun _ _ h => h.elim) (fun _ _ h => h) fun _ _ _ h => h.elim
            · have : ¬ ((xs.length : Int) = rows.length) := by omega
              simp [isTyB, isTy, rowB, hlen, this]
            · refine ev_or (ev_not (ev_isi (er _) hr)) fun _ => ev_or (ev_nei (ev_len (er _)) (ev_var rfl)) fun h => ?_
              have : ¬ ((xs.length : Int) = rows.length) := by omega
              simp [this] at h
        | non => exact wpF_imp (done (!isTyB .non .tuple || false) rfl (ev_or (ev_not (ev_isi (er _) hr)) fun h => by cases h)) (fun _ _ h => h) (fun _ _ h => h) (fun _ _ h => h.elim) (fun _ _ h => h) fun _ _ _ h => h.elim
        | bl b => exact wpF_imp (done (!isTyB (.bl b) .tuple || false) rfl (ev_or (ev_not (ev_isi (er _) hr)) fun h => by cases h)) (fun _ _ h => h) (fun _ _ h => h) (fun _ _ h => h.elim) (fun _ _ h => h) fun _ _ _ h => h.elim
        | int b => exact wpF_imp (done (!isTyB (.int b) .tuple || false) rfl (ev_or (ev_not (ev_isi (er _) hr)) fun h => by cases h)) (fun _ _ h => h) (fun _ _ h => h) (fun _ _ h => h.elim) (fun _ _ h => h) fun _ _ _ h => h.elim
        | str b => exact wpF_imp (done (!isTyB (.str b) .tuple || false) rfl (ev_or (ev_not (ev_isi (er _) hr)) fun h => by cases h)) (fun _ _ h => h) (fun _ _ h => h) (fun _ _ h => h.elim) (fun _ _ h => h) fun _ _ _ h => h.elim
        | fl b => exact wpF_imp (done (!isTyB (.fl b) .tuple || false) rfl (ev_or (ev_not (ev_isi (er _) hr)) fun h => by cases h)) (fun _ _ h => h) (fun _ _ h => h) (fun _ _ h => h.elim) (fun _ _ h => h) fun _ _ _ h => h.elim
        | kl _ => cases hr
        | lst _ => cases hr
        | dct _ => cases hr
        | fn _ => cases hr
      · intro s S' hI
        obtain ⟨h1, ⟨r0, h2⟩, hj⟩ := hI
        refine wp_ret (x := .bl (webB (.tup rows))) (S1 := S) ?_ ⟨rfl, [], by simp⟩
        rw [h2, h1]
        have hall : rows.all (rowB rows.length) = true := List.all_eq_true.mpr fun r hr => by
          obtain ⟨j, hjl, rfl⟩ := List.getElem_of_mem hr
          have := hj j hjl
          rw [List.getElem?_eq_getElem hjl] at this
          simpa using this
        have e := e_sym (cf := callF P n (d + 1)) (S := S) (L := .var 1) (s := [some (.tup rows), some (.int rows.length), r0, none, none, none]) (ia := 5) (ib := 4) hall hl2 (by simp) (by simp) (by decide) (by decide) (by decide) rfl (ev_var rfl)
        have e2 : webB (.tup rows) = (List.range rows.length).all fun a => decide (ent rows a a = 0) && (List.range a).all fun b => decide (ent rows a b = ent rows b a) := by
          simp only [webB, hall, decide_eq_true hl1, decide_eq_true hl2, Bool.and_self, Bool.true_and]
        rw [e2]
        exact e
  | non =>
    refine wp_cons (wp_iff (S1 := S) (p := !isTyB .non .tuple || false) (ev_or (ev_not (ev_isi (e0 _ _) hx)) fun h => ?_) (fun _ => wp_ret (S1 := S) ev_con ⟨rfl, [], by simp⟩) fun h => ?_)
    · exact absurd h (by simp [isTyB, isTy])
    · exact absurd h (by simp [isTyB, isTy])
  | bl b =>
    refine wp_cons (wp_iff (S1 := S) (p := !isTyB (.bl b) .tuple || false) (ev_or (ev_not (ev_isi (e0 _ _) hx)) fun h => ?_) (fun _ => wp_ret (S1 := S) ev_con ⟨rfl, [], by simp⟩) fun h => ?_)
    · exact absurd h (by simp [isTyB, isTy])
    · exact absurd h (by simp [isTyB, isTy])
  | int b =>
    refine wp_cons (wp_iff (S1 := S) (p := !isTyB (.int b) .tuple || false) (ev_or (ev_not (ev_isi (e0 _ _) hx)) fun h => ?_) (fun _ => wp_ret (S1 := S) ev_con ⟨rfl, [], by simp⟩) fun h => ?_)
    · exact absurd h (by simp [isTyB, isTy])
    · exact absurd h (by simp [isTyB, isTy])
  | str b =>
    refine wp_cons (wp_iff (S1 := S) (p := !isTyB (.str b) .tuple || false) (ev_or (ev_not (ev_isi (e0 _ _) hx)) fun h => ?_) (fun _ => wp_ret (S1 := S) ev_con ⟨rfl, [], by simp⟩) fun h => ?_)
    · exact absurd h (by simp [isTyB, isTy])
    · exact absurd h (by simp [isTyB, isTy])
  | fl b =>
    refine wp_cons (wp_iff (S1 := S) (p := !isTyB (.fl b) .tuple || false) (ev_or (ev_not (ev_isi (e0 _ _) hx)) fun h => ?_) (fun _ => wp_ret (S1 := S) ev_con ⟨rfl, [], by simp⟩) fun h => ?_)
    · exact absurd h (by simp [isTyB, isTy])
    · exact absurd h (by simp [isTyB, isTy])
  | kl _ => cases hx
  | lst _ => cases hx
  | dct _ => cases hx
  | fn _ => cases hx
end
end K84
end
section
set_option maxRecDepth 100000
set_option maxHeartbeats 1000000
/-! K84n: points, pairs, forms of papers. -/
namespace K84
open DI
section
variable {n d : Nat} {S : Store}
theorem s_is_whole {x : D} (hx : pd x = true) : callF P n (d + 1) 18 [x] S = .ok (.bl (isIntB x)) S := by
  refine call_pure (f := f18) rfl rfl rfl rfl (wp_cons ?_)
  cases x <;> first | (cases hx; done) | (simp [exec, f18, evalE, evalAnd, liveD, isTys, isTy, wpF, bindF, isIntB]; done)
/-- a point below v -/
def pointB (v : Nat) : D → Bool
  | .int i => decide (0 ≤ i) && decide (i < v)
  | _ => false
theorem e_point {cf : Nat → List D → Store → R D} {s : Sl} {v : Nat} {f : Nat} {A V : E} {x : D} (hx : pd x = true) (hf : cf f [x] S = .ok (.bl (isIntB x)) S) (hA : evalE cf A s S = .ok x S) (hV : evalE cf V s S = .ok (.int (v : Int)) S) :
    evalE cf (.and [(.call f [A]), (.chn .LtE .Lt (.con (.int 0)) A V)]) s S = .ok (.bl (pointB v x)) S := by
  have hc := ev_call1 (f := f) hA hf
  cases x with
  | int j => exact ev_and (q := decide (0 ≤ j) && decide (j < v)) hc fun _ => ev_and1 (ev_chn ev_con hA cmp_le (fun _ => hV) fun _ => cmp_lt)
  | non => exact ev_and (q := false) hc (fun h => by cases h)
  | bl _ => exact ev_and (q := false) hc (fun h => by cases h)
  | str _ => exact ev_and (q := false) hc (fun h => by cases h)
  | tup _ => exact ev_and (q := false) hc (fun h => by cases h)
  | fl _ => exact ev_and (q := false) hc (fun h => by cases h)
  | kl _ => cases hx
  | lst _ => cases hx
  | dct _ => cases hx
  | fn _ => cases hx
theorem s_is_point {x : D} {v : Nat} (hx : pd x = true) : callF P n (d + 2) 6 [x, .int (v : Int)] S = .ok (.bl (pointB v x)) S := by
  refine call_pure (f := f6) rfl rfl rfl rfl (wp_ret (S1 := S) (e_point hx (s_is_integer hx) (ev_var rfl) (ev_var rfl)) ⟨rfl, [], by simp⟩)
theorem s_says {x : D} {b : Bool} (hx : pd x = true) (hd : dep x ≤ 64) : callF P n (d + 1) 17 [x, .bl b] S = .ok (.bl (decide (x = .bl b))) S := by
  refine call_pure (f := f17) rfl rfl rfl rfl ?_
  have hi := ev_isi (cf := callF P n d) (t := .bool) (S := S) (ev_var (s := [some x, some (.bl b)]) (i := 0) rfl) hx
  cases x with
  | bl c =>
    refine wp_ret (S1 := S) (ev_and (q := deq (.bl c) (.bl b)) hi fun _ => ev_and1 (ev_eq (ev_var rfl) (ev_var rfl) rfl rfl (Nat.zero_le _) (Nat.zero_le _))) ⟨?_, [], by simp⟩
    cases b <;> cases c <;> rfl
  | non => exact wp_ret (S1 := S) (ev_and (q := false) hi fun h => by cases h) ⟨by simp [isTyB, isTy], [], by simp⟩
  | int _ => exact wp_ret (S1 := S) (ev_and (q := false) hi fun h => by cases h) ⟨by simp [isTyB, isTy], [], by simp⟩
  | str _ => exact wp_ret (S1 := S) (ev_and (q := false) hi fun h => by cases h) ⟨by simp [isTyB, isTy], [], by simp⟩
  | tup _ => exact wp_ret (S1 := S) (ev_and (q := false) hi fun h => by cases h) ⟨by simp [isTyB, isTy], [], by simp⟩
  | fl _ => exact wp_ret (S1 := S) (ev_and (q := false) hi fun h => by cases h) ⟨by simp [isTyB, isTy], [], by simp⟩
  | kl _ => cases hx
  | lst _ => cases hx
  | dct _ => cases hx
  | fn _ => cases hx
/-- a paper of that word -/
def formB (w : List Nat) (m : Nat) : D → Bool
  | .tup (.str u :: ds) => decide (ds.length + 1 = m) && decide (u = w)
  | _ => false
theorem formB_eq {w : List Nat} {m : Nat} {x : D} (h : formB w m x = true) : ∃ ds, x = .tup (.str w :: ds) ∧ ds.length + 1 = m := by
  cases x with
  | tup l =>
    cases l with
    | nil => cases h
    | cons a l =>
      cases a with
      | str u =>
        simp only [formB, Bool.and_eq_true, decide_eq_true_eq] at h
        exact ⟨l, by rw [h.2], h.1⟩
      | _ => cases h
  | _ => cases h
theorem deq_str {u w : List Nat} : deq (.str u) (.str w) = decide (u = w) := by
  simp only [deq]
  exact Bool.beq_eq_decide_eq u w
theorem e_form {cf : Nat → List D → Store → R D} {x : D} {w : List Nat} {m : Nat} (hx : pd x = true) (hw : pd (.str w) = true) (hm : 0 < m) :
    evalE cf (.and [(.isi (.var 0) [.tuple]), (.cmp .Eq (.bi .len (.var 0)) (.var 2)), (.isi (.ix (.var 0) (.con (.int 0))) [.str]), (.cmp .Eq (.ix (.var 0) (.con (.int 0))) (.var 1))]) [some x, some (.str w), some (.int (m : Int))] S = .ok (.bl (formB w m x)) S := by
  have hv : ∀ (S : Store), evalE cf (.var 0) [some x, some (.str w), some (.int (m : Int))] S = .ok x S := fun S => ev_var rfl
  have hi := ev_isi (t := .tuple) (S1 := S) (hv S) hx
  have no : ∀ q : Bool, isTyB x .tuple = false → formB w m x = false → evalE cf (.and [(.isi (.var 0) [.tuple]), (.cmp .Eq (.bi .len (.var 0)) (.var 2)), (.isi (.ix (.var 0) (.con (.int 0))) [.str]), (.cmp .Eq (.ix (.var 0) (.con (.int 0))) (.var 1))]) [some x, some (.str w), some (.int (m : Int))] S = .ok (.bl (formB w m x)) S := fun q h1 h2 => by
    rw [h1] at hi
    rw [h2]
    exact ev_and (q := false) hi fun h => by cases h
  cases x with
  | tup l =>
    have hl := pd_tup.mp hx
    by_cases hlen : l.length = m
    · cases l with
      | nil => simp at hlen; omega
      | cons a l =>
        have ha := hl a List.mem_cons_self
        have e0 : ∀ (S : Store), evalE cf (.ix (.var 0) (.con (.int 0))) [some (.tup (a :: l)), some (.str w), some (.int (m : Int))] S = .ok a S := fun S => ev_ixc (k := 0) (hv S) rfl
        have hs := ev_isi (t := .str) (S1 := S) (e0 S) ha
        have hlI : decide (((a :: l).length : Int) = (m : Int)) = true := decide_eq_true (by exact_mod_cast hlen)
        have step : ∀ q : Bool, evalE cf (.and [(.isi (.ix (.var 0) (.con (.int 0))) [.str]), (.cmp .Eq (.ix (.var 0) (.con (.int 0))) (.var 1))]) [some (.tup (a :: l)), some (.str w), some (.int (m : Int))] S = .ok (.bl q) S → evalE cf (.and [(.isi (.var 0) [.tuple]), (.cmp .Eq (.bi .len (.var 0)) (.var 2)), (.isi (.ix (.var 0) (.con (.int 0))) [.str]), (.cmp .Eq (.ix (.var 0) (.con (.int 0))) (.var 1))]) [some (.tup (a :: l)), some (.str w), some (.int (m : Int))] S = .ok (.bl q) S := fun q hq => by
          have := ev_and (q := (decide (((a :: l).length : Int) = (m : Int)) && q)) hi fun _ => ev_and (q := q) (ev_eqi (ev_len (hv S)) (ev_var (i := 2) rfl)) fun _ => hq
          rw [hlI] at this
          simpa [isTyB, isTy] using this
        refine step _ ?_
        cases a with
        | str u =>
          have : formB w m (.tup (.str u :: l)) = decide (u = w) := by
            simp only [formB]
            rw [decide_eq_true (show l.length + 1 = m by simpa using hlen)]
            simp
          rw [this, ← deq_str]
          have e := ev_and (q := deq (.str u) (.str w)) hs fun _ => ev_and1 (ev_eq (e0 S) (ev_var (i := 1) rfl) ha hw (Nat.zero_le _) (Nat.zero_le _))
          simpa [isTyB, isTy] using e
        | non => exact ev_and (q := false) hs fun h => by cases h
        | bl _ => exact ev_and (q := false) hs fun h => by cases h
        | int _ => exact ev_and (q := false) hs fun h => by cases h
        | tup _ => exact ev_and (q := false) hs fun h => by cases h
        | fl _ => exact ev_and (q := false) hs fun h => by cases h
        | kl _ => cases ha
        | lst _ => cases ha
        | dct _ => cases ha
        | fn _ => cases ha
    · have hf : formB w m (.tup l) = false := by
        cases h : formB w m (.tup l) with
        | false => rfl
        | true =>
          obtain ⟨ds, e1, e2⟩ := formB_eq h
          cases e1
          simp at hlen
          omega
      have hlI : decide ((l.length : Int) = (m : Int)) = false := decide_eq_false (by exact_mod_cast hlen)
      rw [hf]
      have := ev_and (es := [(.isi (.ix (.var 0) (.con (.int 0))) [.str]), (.cmp .Eq (.ix (.var 0) (.con (.int 0))) (.var 1))]) (q := (decide ((l.length : Int) = (m : Int)) && false)) hi fun _ => ev_and (q := false) (ev_eqi (ev_len (hv S)) (ev_var (i := 2) rfl)) fun h => by rw [hlI] at h; cases h
      rw [hlI] at this
      simpa using this
  | non => exact no false rfl rfl
  | bl _ => exact no false rfl rfl
  | int _ => exact no false rfl rfl
  | str _ => exact no false rfl rfl
  | fl _ => exact no false rfl rfl
  | kl _ => cases hx
  | lst _ => cases hx
  | dct _ => cases hx
  | fn _ => cases hx
theorem s_is_paper {x : D} {w : List Nat} {m : Nat} (hx : pd x = true) (hw : pd (.str w) = true) (hm : 0 < m) : callF P n (d + 1) 5 [x, .str w, .int (m : Int)] S = .ok (.bl (formB w m x)) S :=
  call_pure (f := f5) rfl rfl rfl rfl (wp_ret (S1 := S) (e_form hx hw hm) ⟨rfl, [], by simp⟩)
theorem s_has_form {x : D} {w : List Nat} {m : Nat} (hx : pd x = true) (hw : pd (.str w) = true) (hm : 0 < m) : callF P n (d + 1) 21 [x, .str w, .int (m : Int)] S = .ok (.bl (formB w m x)) S :=
  call_pure (f := f21) rfl rfl rfl rfl (wp_ret (S1 := S) (e_form hx hw hm) ⟨rfl, [], by simp⟩)
end
end K84
end
section
set_option maxRecDepth 100000
set_option maxHeartbeats 1000000
/-! K84o: pairs, shared points. -/
namespace K84
open DI
section
variable {n d : Nat} {S : Store}
/-- a web's rows -/
structure Rw (rows : List D) : Prop where
  pd : ∀ r, r ∈ rows → pd r = true
  ok : rows.all (rowB rows.length) = true
  lo : 2 ≤ rows.length
  hi : rows.length ≤ 64
  sym : ∀ a b, a < rows.length → b < rows.length → ent rows a b = ent rows b a
  dia : ∀ a, a < rows.length → ent rows a a = 0
theorem bit_of {x : D} (h : bitB x = true) : x = .int 0 ∨ x = .int 1 := by
  cases x with
  | int i =>
    simp [bitB] at h
    have : i = 0 ∨ i = 1 := by omega
    rcases this with rfl | rfl
    · exact .inl rfl
    · exact .inr rfl
  | _ => cases h
theorem Rw.bit {rows : List D} (w : Rw rows) {a b : Nat} (ha : a < rows.length) (hb : b < rows.length) : ent rows a b = 0 ∨ ent rows a b = 1 := by
  obtain ⟨xs, h1, h2, h3⟩ := rows_at w.ok ha
  have hr := List.all_eq_true.mp w.ok (.tup xs) (List.mem_of_getElem? h1)
  simp only [rowB, Bool.and_eq_true, List.all_eq_true] at hr
  rcases bit_of (hr.2 _ (List.mem_of_getElem? (h3 b hb))) with e | e
  · exact .inl (D.int.inj e)
  · exact .inr (D.int.inj e)
theorem rw_of {x : D} (hx : pd x = true) (h : webB x = true) : ∃ rows, x = .tup rows ∧ Rw rows := by
  cases x with
  | tup rows =>
    simp only [webB, Bool.and_eq_true, decide_eq_true_eq, List.all_eq_true, List.mem_range] at h
    obtain ⟨⟨⟨h1, h2⟩, h3⟩, h4⟩ := h
    refine ⟨rows, rfl, pd_tup.mp hx, List.all_eq_true.mpr h3, h1, h2, fun a b ha hb => ?_, fun a ha => (h4 a ha).1⟩
    rcases Nat.lt_trichotomy a b with hlt | heq | hgt
    · exact ((h4 b hb).2 a hlt).symm
    · rw [heq]
    · exact (h4 a ha).2 b hgt
  | _ => cases h
/-- a pair of points whose entry is x -/
def pairB (rows : List D) (x : Int) : D → Bool
  | .tup [p, q] => pointB rows.length p && pointB rows.length q && !decide (natOf p = natOf q) && decide (ent rows (natOf p) (natOf q) = x)
  | _ => false
theorem point_of {v : Nat} {x : D} (h : pointB v x = true) : x = .int (natOf x : Int) ∧ natOf x < v := by
  cases x with
  | int i =>
    simp [pointB] at h
    simp only [natOf]
    refine ⟨?_, by omega⟩
    congr 1
    omega
  | _ => cases h
theorem e_pairs {cf : Nat → List D → Store → R D} {rows : List D} {e : D} {x : Int} {elt : E} (w : Rw rows) (he : pd e = true)
    (helt : ∀ y, pd y = true → evalE cf elt [some (.tup rows), some e, some (.int x), some y] S = .ok (.bl (pointB rows.length y)) S) :
    wpF (execs cf n [.iff (.or [(.not (.isi (.var 1) [.tuple])), (.cmp .NotEq (.bi .len (.var 1)) (.con (.int 2))), (.not (.bi .all (.cmph false elt (.nm 3) (.seq (.var 1)) [] [3])))]) [.ret (.con (.bl false))] [],
      .ret (.and [(.cmp .NotEq (.ix (.var 1) (.con (.int 0))) (.ix (.var 1) (.con (.int 1)))), (.cmp .Eq (.ix (.ix (.var 0) (.ix (.var 1) (.con (.int 0)))) (.ix (.var 1) (.con (.int 1)))) (.var 2))])]
      [some (.tup rows), some e, some (.int x), none] S) { nx := fun _ S1 => D.bl (pairB rows x e) = .non ∧ ∃ X, S1 = S ++ X, rt := fun dd S1 => dd = .bl (pairB rows x e) ∧ ∃ X, S1 = S ++ X } := by
  have hv : ∀ (S : Store), evalE cf (.var 1) [some (.tup rows), some e, some (.int x), none] S = .ok e S := fun S => ev_var rfl
  have hi := ev_isi (t := .tuple) (S1 := S) (hv S) he
  have no : isTyB e .tuple = false → pairB rows x e = false → wpF (execs cf n [.iff (.or [(.not (.isi (.var 1) [.tuple])), (.cmp .NotEq (.bi .len (.var 1)) (.con (.int 2))), (.not (.bi .all (.cmph false elt (.nm 3) (.seq (.var 1)) [] [3])))]) [.ret (.con (.bl false))] [],
      .ret (.and [(.cmp .NotEq (.ix (.var 1) (.con (.int 0))) (.ix (.var 1) (.con (.int 1)))), (.cmp .Eq (.ix (.ix (.var 0) (.ix (.var 1) (.con (.int 0)))) (.ix (.var 1) (.con (.int 1)))) (.var 2))])]
      [some (.tup rows), some e, some (.int x), none] S) { nx := fun _ S1 => D.bl (pairB rows x e) = .non ∧ ∃ X, S1 = S ++ X, rt := fun dd S1 => dd = .bl (pairB rows x e) ∧ ∃ X, S1 = S ++ X } := fun h1 h2 => by
    rw [h1] at hi
    refine wp_cons (wp_iff (S1 := S) (p := true) (ev_or (q := false) (ev_not hi) fun h => by cases h) (fun _ => wp_ret (S1 := S) ev_con ⟨by rw [h2], [], by simp⟩) fun h => by cases h)
  cases e with
  | tup l =>
    have hl := pd_tup.mp he
    by_cases hlen : l.length = 2
    · match l, hlen, hl, he, hv, hi, helt with
      | [p, q], _, hl, he, hv, hi, helt =>
        have hp := hl p (by simp)
        have hq := hl q (by simp)
        have hall := ev_all (cf := cf) (s := [some (.tup rows), some (.tup [p, q]), some (.int x), none]) (S := S) (own := [3]) (tg := .nm 3) (elt := elt) (pointB rows.length) (it_seq (hv S)) rfl (by simp [lim]) fun y hy => ⟨_, rfl, helt y (hl y hy)⟩
        have hlen2 : decide ((([p, q] : List D).length : Int) = 2) = true := rfl
        have hcond := ev_or (ev_not hi) fun _ => ev_or (ev_nei (j := 2) (ev_len (hv S)) ev_con) fun _ => ev_or1 (ev_not hall)
        refine wp_cons (wp_iff (S1 := S) hcond (fun h => ?_) fun h => ?_)
        · refine wp_ret (S1 := S) ev_con ⟨?_, [], by simp⟩
          simp [isTyB, isTy] at h
          simp only [pairB]
          congr 1
          cases h1 : pointB rows.length p with
          | false => rfl
          | true =>
            cases h2 : pointB rows.length q with
            | false => rfl
            | true => simp [h1, h2] at h
        · simp [isTyB, isTy] at h
          obtain ⟨h1, h2⟩ := h
          obtain ⟨p1, p2⟩ := point_of h1
          obtain ⟨q1, q2⟩ := point_of h2
          have ep : evalE cf (.ix (.var 1) (.con (.int 0))) [some (.tup rows), some (.tup [p, q]), some (.int x), none] S = .ok (.int (natOf p : Int)) S :=
            (ev_ixc (k := 0) (hv S) (y := p) rfl).trans (by rw [← p1])
          have eq : evalE cf (.ix (.var 1) (.con (.int 1))) [some (.tup rows), some (.tup [p, q]), some (.int x), none] S = .ok (.int (natOf q : Int)) S :=
            (ev_ixc (k := 1) (hv S) (y := q) rfl).trans (by rw [← q1])
          refine wp_nil ?_
          refine wp_ret (S1 := S) (ev_and (ev_nei ep eq) fun _ => ev_and1 (ev_eqi (e_ent w.ok (ev_var rfl) ep eq p2 q2) (ev_var rfl))) ⟨?_, [], by simp⟩
          simp only [pairB, h1, h2, Bool.true_and]
          congr 3
          exact decide_eq_decide.mpr (by omega)
    · have hf : pairB rows x (.tup l) = false := by
        match l, hlen with
        | [], _ => rfl
        | [_], _ => rfl
        | [_, _], h => exact absurd rfl h
        | _ :: _ :: _ :: _, _ => rfl
      have hlI : decide ((l.length : Int) = 2) = false := decide_eq_false (by exact_mod_cast hlen)
      have hcond := ev_or (es := [(.not (.bi .all (.cmph false elt (.nm 3) (.seq (.var 1)) [] [3])))]) (q := (!decide ((l.length : Int) = 2) || false)) (ev_not hi) fun _ => ev_or (q := false) (ev_nei (j := 2) (ev_len (hv S)) ev_con) fun h => by rw [hlI] at h; cases h
      refine wp_cons (wp_iff (S1 := S) hcond (fun h => ?_) fun h => ?_)
      · exact wp_ret (S1 := S) ev_con ⟨by rw [hf], [], by simp⟩
      · rw [hlI] at h
        simp at h
  | non => exact no rfl rfl
  | bl _ => exact no rfl rfl
  | int _ => exact no rfl rfl
  | str _ => exact no rfl rfl
  | fl _ => exact no rfl rfl
  | kl _ => cases he
  | lst _ => cases he
  | dct _ => cases he
  | fn _ => cases he
theorem s_is_pair {rows : List D} {e : D} {x : Int} (w : Rw rows) (he : pd e = true) : callF P n (d + 3) 7 [.tup rows, e, .int x] S = .ok (.bl (pairB rows x e)) S :=
  call_pure (f := f7) rfl rfl rfl rfl (e_pairs w he fun y hy => ev_call2 (ev_var rfl) (ev_len (ev_var rfl)) (s_is_point hy))
theorem s_law_is_pair {rows : List D} {e : D} {x : Int} (w : Rw rows) (he : pd e = true) : callF P n (d + 2) 28 [.tup rows, e, .int x] S = .ok (.bl (pairB rows x e)) S :=
  call_pure (f := f28) rfl rfl rfl rfl (e_pairs w he fun y hy => e_point hy (s_is_whole hy) (ev_var rfl) (ev_len (ev_var rfl)))
/-- shared points -/
def shr (rows : List D) (a b : Nat) : Int := ((List.range rows.length).map fun c => ent rows a c * ent rows b c).sum
theorem bin_mul {i j : Int} (h : i = 0 ∨ i = 1) : bin .Mult (.int i) (.int j) S = .ok (.int (i * j)) S := by
  have : mulOk i j = true := by
    have h0 : decide ((0 : Int).natAbs < 2 ^ 64) = true := by decide
    have h1 : decide ((1 : Int).natAbs < 2 ^ 64) = true := by decide
    rcases h with rfl | rfl
    · unfold mulOk; rw [h0]; rfl
    · unfold mulOk; rw [h1]; rfl
  show (if mulOk i j then R.ok (D.int (i * j)) S else R.no) = _
  rw [this]
  rfl
theorem s_law_shared {rows : List D} {a b : Nat} (w : Rw rows) (ha : a < rows.length) (hb : b < rows.length) : callF P n (d + 1) 26 [.tup rows, .int (a : Int), .int (b : Int)] S = .ok (.int (shr rows a b)) S := by
  have hl := w.hi
  have e : evalE (callF P n d) (.bi .sum (.cmph false (.bin .Mult (.ix (.ix (.var 0) (.var 1)) (.var 3)) (.ix (.ix (.var 0) (.var 2)) (.var 3))) (.nm 3) (.rng1 (.bi .len (.var 0))) [] [3])) [some (.tup rows), some (.int (a : Int)), some (.int (b : Int)), none] S = .ok (.int (shr rows a b)) S := by
    unfold shr
    refine ev_sum_rng (k := rows.length) (fun c => ent rows a c * ent rows b c) (it_rng (ev_len (ev_var rfl)) (by omega)) (by omega) fun c hc => ⟨[some (.tup rows), some (.int (a : Int)), some (.int (b : Int)), some (.int (c : Int))], rfl, ?_⟩
    have e1 := e_ent (cf := callF P n d) (s := [some (.tup rows), some (.int (a : Int)), some (.int (b : Int)), some (.int (c : Int))]) (S := S) (A := .var 0) (B := .var 1) (C := .var 3) w.ok (ev_var rfl) (ev_var rfl) (ev_var rfl) ha hc
    have e2 := e_ent (cf := callF P n d) (s := [some (.tup rows), some (.int (a : Int)), some (.int (b : Int)), some (.int (c : Int))]) (S := S) (A := .var 0) (B := .var 2) (C := .var 3) w.ok (ev_var rfl) (ev_var rfl) (ev_var rfl) hb hc
    rw [evalE, e1, R.bind_ok, e2, R.bind_ok, bin_mul (w.bit ha hc)]
  refine call_pure (f := f26) rfl rfl rfl rfl ?_
  change wpF (execs (callF P n d) n f26.body [some (D.tup rows), some (D.int ↑a), some (D.int ↑b), none] S) _
  generalize ([some (D.tup rows), some (D.int ↑a), some (D.int ↑b), none] : Sl) = s at e ⊢
  exact wp_ret (S1 := S) e ⟨rfl, [], (List.append_nil S).symm⟩
/-- the rows as lists of values -/
theorem Rw.row {rows : List D} (w : Rw rows) {a : Nat} (ha : a < rows.length) : rows[a]? = some (.tup ((List.range rows.length).map fun c => .int (ent rows a c))) := by
  obtain ⟨xs, h1, h2, h3⟩ := rows_at w.ok ha
  rw [h1]
  congr 2
  apply List.ext_getElem?
  intro c
  by_cases hc : c < rows.length
  · rw [h3 c hc, List.getElem?_map, List.getElem?_range hc]; rfl
  · rw [List.getElem?_eq_none (by omega), List.getElem?_eq_none (by simpa using hc)]
theorem s_common_of {rows : List D} {a b : Nat} (w : Rw rows) (ha : a < rows.length) (hb : b < rows.length) : callF P n (d + 1) 3 [.tup rows, .int (a : Int), .int (b : Int)] S = .ok (.int (shr rows a b)) S := by
  have hl := w.hi
  have ra : ∀ (S : Store) (x y : Option D), evalE (callF P n d) (.ix (.var 0) (.var 1)) [some (.tup rows), some (.int (a : Int)), some (.int (b : Int)), x, y] S = .ok (.tup ((List.range rows.length).map fun c => .int (ent rows a c))) S := fun S x y => ev_ix (ev_var rfl) (ev_var rfl) (w.row ha)
  have rb : ∀ (S : Store) (x y : Option D), evalE (callF P n d) (.ix (.var 0) (.var 2)) [some (.tup rows), some (.int (a : Int)), some (.int (b : Int)), x, y] S = .ok (.tup ((List.range rows.length).map fun c => .int (ent rows b c))) S := fun S x y => ev_ix (ev_var rfl) (ev_var rfl) (w.row hb)
  have hit : evalIt (callF P n d) (.zip (.ix (.var 0) (.var 1)) (.ix (.var 0) (.var 2))) [some (.tup rows), some (.int (a : Int)), some (.int (b : Int)), none, none] S = .ok (.zip (.imm true ((List.range rows.length).map fun c => .int (ent rows a c))) (.imm true ((List.range rows.length).map fun c => .int (ent rows b c)))) S := by
    simp only [evalIt, ra S none none, rb S none none, R.bind_ok, srcOf, opt_some, Src.isT, if_true]
  have hits : itemsS S (.zip (.imm true ((List.range rows.length).map fun c => D.int (ent rows a c))) (.imm true ((List.range rows.length).map fun c => D.int (ent rows b c)))) = some ((List.range rows.length).map fun c => D.tup [.int (ent rows a c), .int (ent rows b c)]) := by
    simp only [itemsS]
    congr 1
    apply List.ext_getElem?
    intro c
    by_cases hc : c < rows.length
    · simp [List.getElem?_zipWith, hc]
    · simp [List.getElem?_zipWith, hc]
  let gg : D → Int := fun x => match x with
    | .tup [.int i, .int j] => i * j
    | _ => 0
  have e : evalE (callF P n d) (.bi .sum (.cmph false (.bin .Mult (.var 3) (.var 4)) (.tp [3, 4]) (.zip (.ix (.var 0) (.var 1)) (.ix (.var 0) (.var 2))) [] [3, 4])) [some (.tup rows), some (.int (a : Int)), some (.int (b : Int)), none, none] S = .ok (.int (shr rows a b)) S := by
    have := ev_sum (cf := callF P n d) (tg := .tp [3, 4]) (own := [3, 4]) (elt := .bin .Mult (.var 3) (.var 4)) gg hit hits (by simp [lim]; omega) fun x hx => by
      obtain ⟨c, hc, rfl⟩ := List.mem_map.mp hx
      have hc := List.mem_range.mp hc
      refine ⟨[some (.tup rows), some (.int (a : Int)), some (.int (b : Int)), some (.int (ent rows a c)), some (.int (ent rows b c))], rfl, ?_⟩
      rw [evalE, ev_var (i := 3) rfl, R.bind_ok, ev_var (i := 4) rfl, R.bind_ok, bin_mul (w.bit ha hc)]
    rw [List.map_map] at this
    exact this
  refine call_pure (f := f3) rfl rfl rfl rfl ?_
  change wpF (execs (callF P n d) n f3.body [some (D.tup rows), some (D.int ↑a), some (D.int ↑b), none, none] S) _
  generalize ([some (D.tup rows), some (D.int ↑a), some (D.int ↑b), none, none] : Sl) = s at e ⊢
  exact wp_ret (S1 := S) e ⟨rfl, [], (List.append_nil S).symm⟩
end
end K84
end
section
set_option maxRecDepth 100000
set_option maxHeartbeats 1000000
/-! K84p: the numbers of a web. -/
namespace K84
open DI
/-- the degree of a -/
def deg (rows : List D) (a : Nat) : Int := ((List.range rows.length).map fun c => ent rows a c).sum
/-- the web is regular and its pairs share l or m -/
structure Good (rows : List D) (k l m : Int) : Prop where
  reg : ∀ a, a < rows.length → deg rows a = k
  lo : 1 ≤ k
  hi : k ≤ rows.length - 2
  shr : ∀ a b, b < a → a < rows.length → shr rows a b = if ent rows a b = 1 then l else m
section
variable {n d : Nat} {S : Store}
variable {cf : Nat → List D → Store → R D} {s : Sl} {S1 : Store} {a b c : E} {x y : D} {ds : List D}
theorem ev_sumt {l : List Int} (h : evalE cf a s S = .ok (.tup (l.map .int)) S1) : evalE cf (.bi .sum a) s S = .ok (.int l.sum) S1 := by
  rw [evalE, h]
  simp only [R.bind_ok, bi, itemsOf, Option.bind_some, ints?_map, opt_some]
theorem Rw.rowi {rows : List D} (w : Rw rows) {i : Nat} (hi : i < rows.length) : rows[i]? = some (.tup (((List.range rows.length).map fun c => ent rows i c).map .int)) := by
  rw [w.row hi, List.map_map]
  rfl
theorem ev_deg {rows : List D} (w : Rw rows) {i : Nat} (hi : i < rows.length) (ha : evalE cf a s S = .ok (.tup rows) S) (hb : evalE cf b s S = .ok (.int (i : Int)) S) : evalE cf (.bi .sum (.ix a b)) s S = .ok (.int (deg rows i)) S := ev_sumt (ev_ix ha hb (w.rowi hi))
theorem wp_asgT {k : Kt} {is : List Nat} {s' : Sl} {nn : Nat} (h : evalE cf a s S = .ok (.tup ds) S1) (h1 : setSl is ds s = some s') (h2 : k.nx s' S1) : wpF (exec cf nn (.asgT is a) s S) k := by
  rw [exec]
  refine wpF_eq h ?_
  simp only [itemsOf, h1]
  exact h2
theorem cell_app {l : List D} : cellL (S ++ [.lst l]) S.length = some l := by
  unfold cellL
  rw [List.getElem?_append_right (Nat.le_refl _)]
  simp
theorem cell_set {l l' : List D} : (S ++ [Cell.lst l]).set S.length (.lst l') = S ++ [.lst l'] := by
  rw [List.set_append_right _ _ (Nat.le_refl _)]
  simp
def cD : Option Int → D
  | none => .non
  | some m => .int m
def cnts (c : Int → Option Int) : List D := [cD (c 0), cD (c 1)]
theorem cnts_at {c : Int → Option Int} {e : Int} (he : e = 0 ∨ e = 1) : ∃ j : Nat, e = (j : Int) ∧ (cnts c)[j]? = some (cD (c e)) ∧ j < 2 := by
  rcases he with rfl | rfl
  · exact ⟨0, rfl, rfl, by decide⟩
  · exact ⟨1, rfl, rfl, by decide⟩
theorem cnts_set {c : Int → Option Int} {e m : Int} (he : e = 0 ∨ e = 1) {j : Nat} (hj : e = (j : Int)) : (cnts c).set j (.int m) = cnts (fun x => if x = e then some m else c x) := by
  rcases he with rfl | rfl
  · have : j = 0 := by omega
    subst this
    rfl
  · have : j = 1 := by omega
    subst this
    rfl
/-- the frame of numbers_of -/
structure Fr4 (rows : List D) (k : Int) (p : Nat) (s : Sl) : Prop where
  len : s.length = 8
  h0 : s[0]? = some (some (.tup rows))
  h1 : s[1]? = some (some (.int (rows.length : Int)))
  h2 : s[2]? = some (some (.int k))
  h4 : s[4]? = some (some (.lst p))
theorem Fr4.set {rows : List D} {k : Int} {p i : Nat} {x : Option D} (f : Fr4 rows k p s) (hi : i = 5 ∨ i = 6 ∨ i = 7) : Fr4 rows k p (s.set i x) := by
  refine ⟨by rw [List.length_set]; exact f.len, ?_, ?_, ?_, ?_⟩ <;> (rw [List.getElem?_set_ne (by omega)]; first | exact f.h0 | exact f.h1 | exact f.h2 | exact f.h4)
theorem it_rng_var {i k : Nat} (h : s[i]? = some (some (.int (k : Int)))) (hk : k ≤ 16777216) : evalIt cf (.rng1 (.var i)) s S = .ok (.rng 0 k) S := it_rng (ev_var h) hk
/-- the pairs ahead of (a, b) are told -/
def Told (rows : List D) (c : Int → Option Int) (a b : Nat) : Prop :=
  (∀ i j, j < i → (i < a ∨ (i = a ∧ j < b)) → c (ent rows i j) = some (shr rows i j)) ∧ ∀ e m, c e = some m → ∃ i j, j < i ∧ i < rows.length ∧ ent rows i j = e ∧ shr rows i j = m
theorem bad_pairs {rows : List D} {i j i' j' : Nat} (h1 : j < i) (h2 : i < rows.length) (h3 : j' < i') (h4 : i' < rows.length) (he : ent rows i j = ent rows i' j') (hs : shr rows i j ≠ shr rows i' j') : ∀ k l m, ¬ Good rows k l m := fun k l m g => by
  have e1 := g.shr i j h1 h2
  have e2 := g.shr i' j' h3 h4
  rw [he] at e1
  exact hs (e1.trans e2.symm)
theorem ev_isnon (h : evalE cf a s S = .ok x S1) : evalE cf (.cmp .Is a (.con .non)) s S = .ok (.bl (decide (x = .non))) S1 := by
  rw [evalE, h, R.bind_ok, ev_con, R.bind_ok]
  rfl
theorem wp_asgS {k : Kt} {nn p j : Nat} {l : List D} (he : evalE cf c s S = .ok x S) (ho : evalE cf a s S = .ok (.lst p) S) (hi : evalE cf b s S = .ok (.int (j : Int)) S) (hc : cellL S p = some l) (hj : j < l.length) (h : k.nx s (S.set p (.lst (l.set j x)))) : wpF (exec cf nn (.asgS a b c) s S) k := by
  rw [exec]
  refine wpF_eq he (wpF_eq ho (wpF_eq hi ?_))
  have e : L2.ixN l.length (j : Int) = some j := by
    unfold L2.ixN
    rw [if_pos (by omega), if_pos (by omega)]
    rfl
  have e2 : setD (.lst p) (.int (j : Int)) x S = .ok () (S.set p (.lst (l.set j x))) := by
    unfold setD
    simp only [hc, opt_some, e]
  exact wpF_eq e2 h
theorem Told.keep {rows : List D} {c : Int → Option Int} {A B : Nat} (ht : Told rows c A B) (h : c (ent rows A B) = some (shr rows A B)) : Told rows c A (B + 1) := by
  refine ⟨fun i j hji hlt => ?_, ht.2⟩
  by_cases e : i = A ∧ j = B
  · rw [e.1, e.2]; exact h
  · exact ht.1 i j hji (by omega)
theorem Told.add {rows : List D} {c : Int → Option Int} {A B : Nat} (ht : Told rows c A B) (hA : A < rows.length) (hB : B < A) (h : c (ent rows A B) = none) : Told rows (fun x => if x = ent rows A B then some (shr rows A B) else c x) A (B + 1) := by
  refine ⟨fun i j hji hlt => ?_, fun e m hm => ?_⟩
  · by_cases e : i = A ∧ j = B
    · rw [e.1, e.2]; simp
    · have h1 := ht.1 i j hji (by omega)
      by_cases e2 : ent rows i j = ent rows A B
      · rw [e2, h] at h1; cases h1
      · simp only [if_neg e2]; exact h1
  · by_cases e2 : e = ent rows A B
    · simp only [if_pos e2] at hm
      cases hm
      exact ⟨A, B, hB, hA, e2.symm, rfl⟩
    · simp only [if_neg e2] at hm
      exact ht.2 e m hm
/-- the inner turn of numbers_of -/
theorem turn4 {rows : List D} (w : Rw rows) {k : Int} {A B : Nat} {c : Int → Option Int} {Kx : Kt} (f : Fr4 rows k S.length s) (hA : A < rows.length) (hB : B < A) (h5 : s[5]? = some (some (.int (A : Int)))) (h6 : s[6]? = some (some (.int (B : Int)))) (ht : Told rows c A B)
    (next : ∀ s' c', Fr4 rows k S.length s' → s'[5]? = some (some (.int (A : Int))) → Told rows c' A (B + 1) → Kx.nx s' (S ++ [.lst (cnts c')])) (stop : (∀ k l m, ¬ Good rows k l m) → ∀ X, Kx.rt .non (S ++ X)) :
    wpF (execs (callF P n (d + 1)) n [.asg 7 (.call 3 [(.var 0), (.var 5), (.var 6)]), .iff (.cmp .Is (.ix (.var 4) (.ix (.ix (.var 0) (.var 5)) (.var 6))) (.con .non)) [.asgS (.var 4) (.ix (.ix (.var 0) (.var 5)) (.var 6)) (.var 7)] [], .iff (.cmp .NotEq (.ix (.var 4) (.ix (.ix (.var 0) (.var 5)) (.var 6))) (.var 7)) [.ret (.con .non)] []] s (S ++ [.lst (cnts c)])) Kx := by
  have hB' : B < rows.length := by omega
  refine wp_cons (wp_asg (x := .int (shr rows A B)) (S1 := S ++ [.lst (cnts c)]) (ev_call3 (ev_var f.h0) (ev_var h5) (ev_var h6) (s_common_of w hA hB')) ?_)
  have f' : Fr4 rows k S.length (s.set 7 (some (.int (shr rows A B)))) := f.set (by omega)
  have g5 : (s.set 7 (some (D.int (shr rows A B))))[5]? = some (some (.int (A : Int))) := by rw [List.getElem?_set_ne (by omega)]; exact h5
  have g6 : (s.set 7 (some (D.int (shr rows A B))))[6]? = some (some (.int (B : Int))) := by rw [List.getElem?_set_ne (by omega)]; exact h6
  have g7 : (s.set 7 (some (D.int (shr rows A B))))[7]? = some (some (.int (shr rows A B))) := List.getElem?_set_self (by rw [f.len]; omega)
  generalize s.set 7 (some (D.int (shr rows A B))) = s1 at f' g5 g6 g7 ⊢
  obtain ⟨j, hj, hat, hj2⟩ := cnts_at (c := c) (w.bit hA hB')
  have he : ∀ S', evalE (callF P n (d + 1)) (.ix (.ix (.var 0) (.var 5)) (.var 6)) s1 S' = .ok (.int (j : Int)) S' := fun S' => by
    rw [← hj]
    exact e_ent w.ok (ev_var f'.h0) (ev_var g5) (ev_var g6) hA hB'
  have hix : ∀ (c2 : Int → Option Int) (z : D), (cnts c2)[j]? = some z → evalE (callF P n (d + 1)) (.ix (.var 4) (.ix (.ix (.var 0) (.var 5)) (.var 6))) s1 (S ++ [.lst (cnts c2)]) = .ok z (S ++ [.lst (cnts c2)]) := fun c2 z hz => by
    rw [evalE, ev_var f'.h4, R.bind_ok, he, R.bind_ok]
    unfold ixD
    simp only [itemsOf, cell_app, opt_some, L2.atI_nat hz]
  have hit := hix c _ hat
  have last : ∀ (c2 : Int → Option Int) (m0 : Int), (cnts c2)[j]? = some (.int m0) → (m0 = shr rows A B → Told rows c2 A (B + 1)) → (m0 ≠ shr rows A B → ∀ k l m, ¬ Good rows k l m) →
      wpF (execs (callF P n (d + 1)) n [.iff (.cmp .NotEq (.ix (.var 4) (.ix (.ix (.var 0) (.var 5)) (.var 6))) (.var 7)) [.ret (.con .non)] []] s1 (S ++ [.lst (cnts c2)])) Kx := fun c2 m0 h1 h2 h3 => by
    refine wp_one (wp_iff (S1 := S ++ [.lst (cnts c2)]) (ev_nei (hix c2 _ h1) (ev_var g7)) (fun h => ?_) fun h => ?_)
    · exact wp_ret (S1 := S ++ [.lst (cnts c2)]) ev_con (stop (h3 (by simpa using h)) _)
    · exact wp_nil (next s1 c2 f' g5 (h2 (by simpa using h)))
  cases hc : c (ent rows A B) with
  | none =>
    rw [hc] at hit hat
    refine wp_cons (wp_iff (S1 := S ++ [.lst (cnts c)]) (ev_isnon hit) (fun _ => ?_) fun h => absurd h (by simp [cD]))
    refine wp_one (wp_asgS (ev_var g7) (ev_var f'.h4) (he _) cell_app (show j < (cnts c).length from hj2) ?_)
    rw [cell_set, cnts_set (w.bit hA hB') hj]
    obtain ⟨j', hj', hat', _⟩ := cnts_at (c := fun x => if x = ent rows A B then some (shr rows A B) else c x) (w.bit hA hB')
    have ej : j' = j := by omega
    subst ej
    simp only [if_true] at hat'
    exact last _ (shr rows A B) hat' (fun _ => ht.add hA hB hc) fun h => absurd rfl h
  | some m0 =>
    rw [hc] at hit hat
    refine wp_cons (wp_iff (S1 := S ++ [.lst (cnts c)]) (ev_isnon hit) (fun h => absurd h (by simp [cD])) fun _ => ?_)
    refine wp_nil ?_
    refine last c m0 hat (fun h => ht.keep (by rw [hc, h])) fun h => ?_
    obtain ⟨i', k', h1, h2, h3, h4⟩ := ht.2 _ _ hc
    exact bad_pairs h1 h2 hB hA h3 (by rw [h4]; exact h)
end
end K84
end
section
set_option maxRecDepth 100000
set_option maxHeartbeats 1000000
/-! K84q: the numbers of a web, told. -/
namespace K84
open DI
theorem sum_zero {f : Nat → Int} : ∀ {l : List Nat}, (∀ x, x ∈ l → f x = 0) → (l.map f).sum = 0
  | [], _ => rfl
  | a :: l, h => by rw [List.map_cons, List.sum_cons, h a List.mem_cons_self, sum_zero fun x hx => h x (List.mem_cons_of_mem _ hx)]; rfl
theorem sum_one {f : Nat → Int} : ∀ {l : List Nat}, (∀ x, x ∈ l → f x = 1) → (l.map f).sum = l.length
  | [], _ => rfl
  | a :: l, h => by rw [List.map_cons, List.sum_cons, h a List.mem_cons_self, sum_one fun x hx => h x (List.mem_cons_of_mem _ hx), List.length_cons]; omega
theorem some_one {rows : List D} (w : Rw rows) (h : 1 ≤ deg rows 0) : ∃ c, 0 < c ∧ c < rows.length ∧ ent rows c 0 = 1 := by
  have h0 : 0 < rows.length := by have := w.lo; omega
  by_cases hh : ∃ c, c < rows.length ∧ ent rows 0 c = 1
  · obtain ⟨c, hc, he⟩ := hh
    have : c ≠ 0 := fun e => by
      subst e
      rw [w.dia 0 h0] at he
      cases he
    exact ⟨c, by omega, hc, by rw [w.sym c 0 hc h0]; exact he⟩
  · have : deg rows 0 = 0 := sum_zero fun x hx => by
      have hx := List.mem_range.mp hx
      rcases w.bit h0 hx with e | e
      · exact e
      · exact absurd ⟨x, hx, e⟩ hh
    omega
theorem some_zero {rows : List D} (w : Rw rows) (h : deg rows 0 ≤ rows.length - 2) : ∃ c, 0 < c ∧ c < rows.length ∧ ent rows c 0 = 0 := by
  have hlo := w.lo
  have h0 : 0 < rows.length := by omega
  by_cases hh : ∃ c, 0 < c ∧ c < rows.length ∧ ent rows 0 c = 0
  · obtain ⟨c, hc0, hc, he⟩ := hh
    exact ⟨c, hc0, hc, by rw [w.sym c 0 hc h0]; exact he⟩
  · obtain ⟨u, hu⟩ : ∃ u, rows.length = u + 1 := ⟨rows.length - 1, by omega⟩
    have : deg rows 0 = u := by
      unfold deg
      rw [hu, List.range_succ_eq_map, List.map_cons, List.sum_cons, w.dia 0 h0, List.map_map, sum_one fun x hx => ?_]
      · simp
      · have hx := List.mem_range.mp hx
        rcases w.bit (a := 0) (b := x + 1) h0 (by omega) with e | e
        · exact absurd ⟨x + 1, by omega, by omega, e⟩ hh
        · exact e
    omega
section
variable {n d : Nat} {S : Store}
theorem call_rel {P : List Fn} {n d i : Nat} {f : Fn} {vs : List D} {S : Store} {Rl : D → Prop} (h : P[i]? = some f) (hl : vs.length = f.ps) (hk : f.keep = false)
    (hb : wpF (execs (callF P n d) n f.body (vs.map some ++ List.replicate (f.ns - vs.length) none) S) { rt := fun r S1 => Rl r ∧ noRef S.length r = true ∧ ∃ X, S1 = S ++ X }) : ∃ v, Rl v ∧ callF P n (d + 1) i vs S = .ok v S := by
  have e : wpR (callF P n (d + 1) i vs S) fun r S' => Rl r ∧ S' = S := wp_call h hl (wpF_imp hb (fun _ _ z => z.elim) (fun r S1 ⟨h1, h2, X, eX⟩ => by
    subst eX
    show wpR (cut S f.keep r (S ++ X)) _
    rw [hk, cut_app h2]
    exact ⟨h1, rfl⟩) (fun _ _ z => z) (fun _ _ z => z) fun _ _ _ z => z)
  obtain ⟨v, S', e1, h1, e2⟩ := wpR_iff.mp e
  subst e2
  exact ⟨v, h1, e1⟩
/-- what numbers_of hands back -/
def R4 (rows : List D) (r : D) : Prop := (r = .non ∧ ∀ k l m, ¬ Good rows k l m) ∨ ∃ k l m, Good rows k l m ∧ r = .tup [.int (rows.length : Int), .int k, .int l, .int m]
def sumD : D → Int
  | .tup xs => ((ints? xs).getD []).sum
  | _ => 0
theorem sumD_row {rows : List D} {i : Nat} : sumD (.tup (((List.range rows.length).map fun c => ent rows i c).map .int)) = deg rows i := by
  simp only [sumD, ints?_map]
  rfl
theorem row_mem {rows : List D} (w : Rw rows) {r : D} (h : r ∈ rows) : ∃ i, i < rows.length ∧ r = .tup (((List.range rows.length).map fun c => ent rows i c).map .int) := by
  obtain ⟨i, hi, e⟩ := List.getElem_of_mem h
  have := w.rowi hi
  rw [List.getElem?_eq_getElem hi, e] at this
  exact ⟨i, hi, Option.some.inj this⟩
theorem s_numbers_of {rows : List D} (w : Rw rows) : ∃ r, R4 rows r ∧ callF P n (d + 2) 4 [.tup rows] S = .ok r S := by
  have hlo := w.lo
  have hhi := w.hi
  have h0 : 0 < rows.length := by omega
  refine call_rel (f := f4) rfl rfl rfl ?_
  generalize hs : (List.map some [D.tup rows] ++ List.replicate (f4.ns - [D.tup rows].length) none) = s
  have v0 : s[0]? = some (some (.tup rows)) := by rw [← hs]; rfl
  have sl : s.length = 8 := by rw [← hs]; rfl
  have eT : ∀ (S : Store), evalE (callF P n (d + 1)) (.var 0) s S = .ok (.tup rows) S := fun S => ev_var v0
  have e1 : evalE (callF P n (d + 1)) (.tup [(.bi .len (.var 0)), (.bi .sum (.ix (.var 0) (.con (.int 0))))]) s S = .ok (.tup [.int (rows.length : Int), .int (deg rows 0)]) S := by
    have hd : evalE (callF P n (d + 1)) (.bi .sum (.ix (.var 0) (.con (.int 0)))) s S = .ok (.int (deg rows 0)) S := ev_deg (i := 0) w h0 (eT S) ev_con
    rw [evalE, evalEs, ev_len (eT S), R.bind_ok, evalEs, hd, R.bind_ok, evalEs, R.bind_ok]
    rfl
  refine wp_cons (wp_asgT (S1 := S) e1 (s' := (s.set 1 (some (.int (rows.length : Int)))).set 2 (some (.int (deg rows 0)))) rfl ?_)
  have q0 : ((s.set 1 (some (D.int (rows.length : Int)))).set 2 (some (.int (deg rows 0))))[0]? = some (some (.tup rows)) := by
    rw [List.getElem?_set_ne (by omega), List.getElem?_set_ne (by omega)]; exact v0
  have q1 : ((s.set 1 (some (D.int (rows.length : Int)))).set 2 (some (.int (deg rows 0))))[1]? = some (some (.int (rows.length : Int))) := by
    rw [List.getElem?_set_ne (by omega), List.getElem?_set_self (by omega)]
  have q2 : ((s.set 1 (some (D.int (rows.length : Int)))).set 2 (some (.int (deg rows 0))))[2]? = some (some (.int (deg rows 0))) := by
    rw [List.getElem?_set_self (by rw [List.length_set]; omega)]
  have ql : ((s.set 1 (some (D.int (rows.length : Int)))).set 2 (some (.int (deg rows 0)))).length = 8 := by simpa using sl
  clear hs e1 eT
  generalize (s.set 1 (some (D.int (rows.length : Int)))).set 2 (some (.int (deg rows 0))) = s1 at q0 q1 q2 ql ⊢
  have eV2 : evalE (callF P n (d + 1)) (.bin .Sub (.var 1) (.con (.int 2))) s1 S = .ok (.int ((rows.length : Int) - 2)) S := by
    rw [evalE, ev_var q1, R.bind_ok, ev_con, R.bind_ok]
    rfl
  have eany := ev_any (cf := callF P n (d + 1)) (s := s1) (S := S) (tg := .nm 3) (own := [3]) (elt := .cmp .NotEq (.bi .sum (.var 3)) (.var 2)) (fun r => !decide (sumD r = deg rows 0)) (it_seq (ev_var q0)) rfl (by simp only [lim]; omega) fun r hr => by
    obtain ⟨i, hi, rfl⟩ := row_mem w hr
    refine ⟨_, rfl, ?_⟩
    rw [sumD_row]
    have g3 : ((wipeD s1 [3]).set 3 (some (D.tup (((List.range rows.length).map fun c => ent rows i c).map .int))))[3]? = some (some (D.tup (((List.range rows.length).map fun c => ent rows i c).map .int))) := List.getElem?_set_self (by simp only [wipeD, List.length_set]; omega)
    have g2 : ((wipeD s1 [3]).set 3 (some (D.tup (((List.range rows.length).map fun c => ent rows i c).map .int))))[2]? = some (some (.int (deg rows 0))) := by
      simp only [wipeD]
      rw [List.getElem?_set_ne (by omega), List.getElem?_set_ne (by omega)]; exact q2
    exact ev_nei (ev_sumt (ev_var g3)) (ev_var g2)
  have echn := ev_chn (cf := callF P n (d + 1)) (a := .con (.int 1)) (b := .var 2) (c := .bin .Sub (.var 1) (.con (.int 2))) (s := s1) (S := S) (op := .LtE) (op' := .LtE) ev_con (ev_var q2) cmp_le (fun _ => eV2) fun _ => cmp_le
  refine wp_cons (wp_iff (S1 := S) (ev_or (ev_not echn) fun _ => ev_or1 eany) (fun h => ?_) fun h => ?_)
  · refine wp_ret (S1 := S) ev_con ⟨.inl ⟨rfl, fun k l m g => ?_⟩, rfl, [], (List.append_nil S).symm⟩
    have hk := g.reg 0 h0
    have h1 := g.lo
    have h2 := g.hi
    rw [← hk] at h1 h2
    rw [decide_eq_true h1, decide_eq_true h2] at h
    simp only [Bool.and_self, Bool.not_true, Bool.false_or, List.any_eq_true] at h
    obtain ⟨r, hr, hh⟩ := h
    obtain ⟨i, hi, rfl⟩ := row_mem w hr
    rw [sumD_row, g.reg i hi, hk] at hh
    simp at hh
  · simp only [Bool.or_eq_false_iff, Bool.not_eq_false', Bool.and_eq_true, decide_eq_true_eq, List.any_eq_false, Bool.not_eq_true', decide_eq_false_iff_not, Decidable.not_not] at h
    obtain ⟨⟨hk1, hk2⟩, hreg⟩ := h
    have reg : ∀ a, a < rows.length → deg rows a = deg rows 0 := fun a ha => by
      have := hreg _ (List.mem_of_getElem? (w.rowi ha))
      rw [sumD_row] at this
      simpa using this
    refine wp_nil ?_
    refine wp_cons (wp_asg (x := .lst S.length) (S1 := S ++ [.lst [.non, .non]]) (by
      rw [evalE, evalEs, ev_con, R.bind_ok, evalEs, ev_con, R.bind_ok, evalEs, R.bind_ok, R.bind_ok, R.bind_ok]
      rfl) ?_)
    have f0 : Fr4 rows (deg rows 0) S.length (s1.set 4 (some (.lst S.length))) := by
      refine ⟨by rw [List.length_set]; exact ql, ?_, ?_, ?_, List.getElem?_set_self (by omega)⟩ <;> (rw [List.getElem?_set_ne (by omega)]; first | exact q0 | exact q1 | exact q2)
    generalize s1.set 4 (some (D.lst S.length)) = s2 at f0 ⊢
    refine wp_cons (wp_for (S1 := S ++ [.lst [.non, .non]]) (src := .rng 0 rows.length) (ds := ints0 rows.length) (fun i s S' => ∃ c, Fr4 rows (deg rows 0) S.length s ∧ Told rows c i 0 ∧ S' = S ++ [.lst (cnts c)]) (it_rng_var f0.h1 (by omega)) (fun _ _ _ _ => it_rng_items)
      ⟨fun _ => none, f0, ⟨fun i j h1 h2 => by omega, fun e m h => by cases h⟩, rfl⟩ ?_ ?_)
    · intro i dd s3 S3 hi hI
      obtain ⟨c, f3, ht, eS⟩ := hI
      obtain ⟨hil, rfl⟩ := ints0_get hi
      refine ⟨s3.set 5 (some (.int (i : Int))), rfl, ?_⟩
      have f5 := f3.set (i := 5) (x := some (.int (i : Int))) (by omega)
      have g5 : (s3.set 5 (some (D.int (i : Int))))[5]? = some (some (.int (i : Int))) := List.getElem?_set_self (by rw [f3.len]; omega)
      generalize s3.set 5 (some (D.int (i : Int))) = s4 at f5 g5 ⊢
      refine wp_one (wp_for (S1 := S3) (src := .rng 0 i) (ds := ints0 i) (fun j s S' => ∃ c, Fr4 rows (deg rows 0) S.length s ∧ s[5]? = some (some (.int (i : Int))) ∧ Told rows c i j ∧ S' = S ++ [.lst (cnts c)]) (it_rng_var g5 (by omega)) (fun _ _ _ _ => it_rng_items) ⟨c, f5, g5, ht, eS⟩ ?_ ?_)
      · intro j dd s6 S6 hj hI
        obtain ⟨c6, f6, g56, ht6, eS6⟩ := hI
        obtain ⟨hjl, rfl⟩ := ints0_get hj
        refine ⟨s6.set 6 (some (.int (j : Int))), rfl, ?_⟩
        have f7 := f6.set (i := 6) (x := some (.int (j : Int))) (by omega)
        have g6 : (s6.set 6 (some (D.int (j : Int))))[6]? = some (some (.int (j : Int))) := List.getElem?_set_self (by rw [f6.len]; omega)
        have g57 : (s6.set 6 (some (D.int (j : Int))))[5]? = some (some (.int (i : Int))) := by rw [List.getElem?_set_ne (by omega)]; exact g56
        generalize s6.set 6 (some (D.int (j : Int))) = s7 at f7 g6 g57 ⊢
        subst eS6
        refine turn4 w f7 hil hjl g57 g6 ht6 (fun s' c' f' h5 ht' => ⟨c', f', h5, ht', rfl⟩) fun hb X => ?_
        exact ⟨.inl ⟨rfl, hb⟩, rfl, X, rfl⟩
      · intro s6 S6 hI
        rw [ints0_len] at hI
        obtain ⟨c6, f6, g56, ht6, eS6⟩ := hI
        exact ⟨c6, f6, ⟨fun a b hba hab => ht6.1 a b hba (by omega), ht6.2⟩, eS6⟩
    · intro s3 S3 hI
      rw [ints0_len] at hI
      obtain ⟨c, f3, ht, eS⟩ := hI
      subst eS
      obtain ⟨p1, p10, p1v, p1e⟩ := some_one w hk1
      obtain ⟨p2, p20, p2v, p2e⟩ := some_zero w hk2
      have c1 := ht.1 p1 0 p10 (.inl p1v)
      have c0 := ht.1 p2 0 p20 (.inl p2v)
      rw [p1e] at c1
      rw [p2e] at c0
      have good : Good rows (deg rows 0) (shr rows p1 0) (shr rows p2 0) := ⟨reg, hk1, hk2, fun a b hba ha => by
        have hab := ht.1 a b hba (.inl ha)
        rcases w.bit (a := a) (b := b) ha (by omega) with e | e
        · rw [e, c0] at hab
          rw [e, if_neg (by decide)]
          exact (Option.some.inj hab).symm
        · rw [e, c1] at hab
          rw [e, if_pos rfl]
          exact (Option.some.inj hab).symm⟩
      have hcell : ∀ (j : Nat) (z : D), (cnts c)[j]? = some z → evalE (callF P n (d + 1)) (.ix (.var 4) (.con (.int (j : Int)))) s3 (S ++ [.lst (cnts c)]) = .ok z (S ++ [.lst (cnts c)]) := fun j z hz => by
        rw [evalE, ev_var f3.h4, R.bind_ok, ev_con, R.bind_ok]
        unfold ixD
        simp only [itemsOf, cell_app, opt_some, L2.atI_nat hz]
      have hc1 := hcell 1 (.int (shr rows p1 0)) (by simp [cnts, c1, cD])
      have hc0 := hcell 0 (.int (shr rows p2 0)) (by simp [cnts, c0, cD])
      refine wp_ret (x := .tup [.int (rows.length : Int), .int (deg rows 0), .int (shr rows p1 0), .int (shr rows p2 0)]) (S1 := S ++ [.lst (cnts c)]) ?_ ⟨.inr ⟨_, _, _, good, rfl⟩, rfl, [.lst (cnts c)], rfl⟩
      rw [evalE, evalEs, ev_var f3.h1, R.bind_ok, evalEs, ev_var f3.h2, R.bind_ok, evalEs]
      erw [hc1]
      rw [R.bind_ok, evalEs]
      erw [hc0]
      rw [R.bind_ok, evalEs]
      rfl
end
end K84
end
section
set_option maxRecDepth 100000
set_option maxHeartbeats 1000000
/-! K84r: draws. -/
namespace K84
open DI
section
variable {n d : Nat} {S : Store}
variable {cf : Nat → List D → Store → R D} {s : Sl} {S1 : Store} {a b c : E} {x y : D} {ds : List D}
/-- the draws' state stands at k -/
def Stt (S : Store) (k : Nat) : Prop := ∃ u t : Int, cellL S k = some [.int u, .int t] ∧ 0 ≤ u ∧ 0 ≤ t
theorem ev_mod {i j : Int} (ha : evalE cf a s S = .ok (.int i) S) (hb : evalE cf b s S = .ok (.int j) S) (h : j ≠ 0) : evalE cf (.bin .Mod a b) s S = .ok (.int (i.fmod j)) S := by
  rw [evalE, ha, R.bind_ok, hb, R.bind_ok]
  exact if_pos h
theorem ev_fdiv {i j : Int} (ha : evalE cf a s S = .ok (.int i) S) (hb : evalE cf b s S = .ok (.int j) S) (h : j ≠ 0) (h2 : j.natAbs < 1073741824) : evalE cf (.bin .FloorDiv a b) s S = .ok (.int (i.fdiv j)) S := by
  rw [evalE, ha, R.bind_ok, hb, R.bind_ok]
  have : divOk j = true := by
    unfold divOk
    rw [decide_eq_true h, decide_eq_true h2]
    rfl
  show (if divOk j then R.ok (D.int (i.fdiv j)) S else R.no) = _
  rw [this]
  rfl
theorem ev_addi {i j : Int} (ha : evalE cf a s S = .ok (.int i) S) (hb : evalE cf b s S = .ok (.int j) S) : evalE cf (.bin .Add a b) s S = .ok (.int (i + j)) S := by
  rw [evalE, ha, R.bind_ok, hb, R.bind_ok]
  rfl
theorem ev_subi {i j : Int} (ha : evalE cf a s S = .ok (.int i) S) (hb : evalE cf b s S = .ok (.int j) S) : evalE cf (.bin .Sub a b) s S = .ok (.int (i - j)) S := by
  rw [evalE, ha, R.bind_ok, hb, R.bind_ok]
  rfl
theorem ev_muli {i j : Int} (ha : evalE cf a s S = .ok (.int i) S) (hb : evalE cf b s S = .ok (.int j) S) (h : mulOk i j = true) : evalE cf (.bin .Mult a b) s S = .ok (.int (i * j)) S := by
  rw [evalE, ha, R.bind_ok, hb, R.bind_ok]
  show (if mulOk i j then R.ok (D.int (i * j)) S else R.no) = _
  rw [h]
  rfl
theorem mulOk_r {i j : Int} (h : decide (j.natAbs < 2 ^ 64) = true) : mulOk i j = true := by
  unfold mulOk
  rw [h]
  simp only [Bool.or_true, Bool.true_or]
theorem ev_int {i : Int} (ha : evalE cf a s S = .ok (.int i) S1) : evalE cf (.bi .int a) s S = .ok (.int i) S1 := by
  rw [evalE, ha]
  rfl
theorem ev_cell {p j : Nat} {l : List D} (ha : evalE cf a s S = .ok (.lst p) S) (hb : evalE cf b s S = .ok (.int (j : Int)) S) (hc : cellL S p = some l) (hz : l[j]? = some x) : evalE cf (.ix a b) s S = .ok x S := by
  rw [evalE, ha, R.bind_ok, hb, R.bind_ok]
  unfold ixD
  simp only [itemsOf, hc, opt_some, L2.atI_nat hz]
theorem cellL_lt {k : Nat} {l : List D} (h : cellL S k = some l) : k < S.length := by
  unfold cellL at h
  split at h
  · rename_i e; exact (List.getElem?_eq_some_iff.mp e).1
  · cases h
theorem cellL_set {k : Nat} {l : List D} (h : k < S.length) : cellL (S.set k (.lst l)) k = some l := by
  unfold cellL
  rw [List.getElem?_set_self h]
theorem okStore_set {k : Nat} {l : List Int} : okStore S (S.set k (.lst (l.map .int))) = true := by
  refine okStore_of (by simp) fun j hj => ?_
  by_cases e : k = j
  · subst e
    refine .inr ⟨_, List.getElem?_set_self hj, ?_⟩
    unfold flatC cellV
    exact noRefs_mem.mpr fun x hx => by
      obtain ⟨i, _, rfl⟩ := List.mem_map.mp hx
      rfl
  · exact .inl (List.getElem?_set_ne e)
theorem s_take {k : Nat} {m : Int} (hS : Stt S k) (h1 : 1 ≤ m) (h2 : m < 1073741824) :
    ∃ v u t : Int, 0 ≤ v ∧ v < m ∧ 0 ≤ u ∧ 0 ≤ t ∧ callF P n (d + 1) 14 [.lst k, .int m] S = .ok (.int v) (S.set k (.lst [.int u, .int t])) := by
  obtain ⟨u0, t0, hc, hu, ht⟩ := hS
  have hk := cellL_lt hc
  have key : wpR (callF P n (d + 1) 14 [.lst k, .int m] S) fun r S' => ∃ v u t : Int, 0 ≤ v ∧ v < m ∧ 0 ≤ u ∧ 0 ≤ t ∧ r = .int v ∧ S' = S.set k (.lst [.int u, .int t]) := by
    refine wp_call (f := f14) rfl rfl ?_
    have fin : ∀ (v u t : Int), 0 ≤ v → v < m → 0 ≤ u → 0 ≤ t → wpR (cut S f14.keep (.int v) (S.set k (.lst [.int u, .int t]))) fun r S' => ∃ v u t : Int, 0 ≤ v ∧ v < m ∧ 0 ≤ u ∧ 0 ≤ t ∧ r = .int v ∧ S' = S.set k (.lst [.int u, .int t]) := fun v u t a1 a2 a3 a4 => by
      show wpR (cut S false (.int v) (S.set k (.lst [.int u, .int t]))) _
      have ec : cut S false (.int v) (S.set k (.lst [.int u, .int t])) = .ok (.int v) ((S.set k (.lst [.int u, .int t])).take S.length) := cut_of (okStore_set (l := [u, t])) rfl
      rw [ec]
      refine ⟨v, u, t, a1, a2, a3, a4, rfl, ?_⟩
      apply List.take_of_length_le
      simp
    generalize hs : (List.map some [D.lst k, D.int m] ++ List.replicate (f14.ns - [D.lst k, D.int m].length) none) = s
    have v0 : s[0]? = some (some (.lst k)) := by rw [← hs]; rfl
    have v1 : s[1]? = some (some (.int m)) := by rw [← hs]; rfl
    have sl : s.length = 3 := by rw [← hs]; rfl
    clear hs
    have e0 : evalE (callF P n d) (.ix (.var 0) (.con (.int 0))) s S = .ok (.int u0) S := ev_cell (j := 0) (ev_var v0) ev_con hc rfl
    have e1 : evalE (callF P n d) (.ix (.var 0) (.con (.int 1))) s S = .ok (.int t0) S := ev_cell (j := 1) (ev_var v0) ev_con hc rfl
    have hm : m ≠ 0 := by omega
    refine wp_cons (wp_iff (S1 := S) (p := decide (0 < u0)) (by
      rw [evalE, e0, R.bind_ok, ev_con, R.bind_ok]
      rfl) (fun h => ?_) fun h => ?_)
    · refine wp_cons (wp_asg (S1 := S) (ev_mod (ev_int e0) (ev_var v1) hm) ?_)
      have w0 : (s.set 2 (some (D.int (u0.fmod m))))[0]? = some (some (.lst k)) := by rw [List.getElem?_set_ne (by omega)]; exact v0
      have w1 : (s.set 2 (some (D.int (u0.fmod m))))[1]? = some (some (.int m)) := by rw [List.getElem?_set_ne (by omega)]; exact v1
      have w2 : (s.set 2 (some (D.int (u0.fmod m))))[2]? = some (some (.int (u0.fmod m))) := List.getElem?_set_self (by omega)
      generalize s.set 2 (some (D.int (u0.fmod m))) = s1 at w0 w1 w2 ⊢
      have e0 : evalE (callF P n d) (.ix (.var 0) (.con (.int 0))) s1 S = .ok (.int u0) S := ev_cell (j := 0) (ev_var w0) ev_con hc rfl
      refine wp_cons (wp_asgS (j := 0) (ev_fdiv e0 (ev_var w1) hm (by omega)) (ev_var w0) ev_con hc (by simp) ?_)
      refine wp_ret (S1 := S.set k (.lst [.int (u0.fdiv m), .int t0])) (ev_var w2) ?_
      exact fin _ _ _ (Int.fmod_nonneg_of_pos u0 (by omega)) (Int.fmod_lt_of_pos u0 (by omega)) (Int.fdiv_nonneg hu (by omega)) ht
    · refine wp_nil ?_
      refine wp_cons (wp_asgS (j := 1) (ev_mod (ev_int (ev_addi (ev_muli e1 ev_con (mulOk_r (by decide))) ev_con)) ev_con (by decide)) (ev_var v0) ev_con hc (by simp) ?_)
      have ht2 : 0 ≤ (t0 * 48271 + 11).fmod 2147483647 := Int.fmod_nonneg_of_pos _ (by decide)
      generalize (t0 * 48271 + 11).fmod 2147483647 = t1 at ht2 ⊢
      have e1 : evalE (callF P n d) (.ix (.var 0) (.con (.int 1))) s (S.set k (.lst [.int u0, .int t1])) = .ok (.int t1) (S.set k (.lst [.int u0, .int t1])) := ev_cell (j := 1) (ev_var v0) ev_con (cellL_set hk) rfl
      refine wp_ret (S1 := S.set k (.lst [.int u0, .int t1])) (ev_mod (ev_int (ev_fdiv e1 ev_con (by decide) (by decide))) (ev_var v1) hm) ?_
      exact fin _ _ _ (Int.fmod_nonneg_of_pos _ (by omega)) (Int.fmod_lt_of_pos _ (by omega)) hu ht2
  obtain ⟨r, S', e, v, u, t, a1, a2, a3, a4, rfl, rfl⟩ := wpR_iff.mp key
  exact ⟨v, u, t, a1, a2, a3, a4, e⟩
end
end K84
end
section
set_option maxRecDepth 100000
set_option maxHeartbeats 1000000
/-! K84s: check_web, what a paper tells of a web. -/
namespace K84
open DI
section
variable {n d : Nat} {S : Store}
theorem s_check {x : D} (hx : pd x = true) (h : webB x = true) : callF P n (d + 3) 2 [x] S = .ok .non S := by
  refine call_pure (f := f2) rfl rfl rfl rfl ?_
  refine wp_one (wp_iff (S1 := S) (ev_not (ev_call1 (ev_var rfl) (s_is_web hx))) (fun hh => ?_) fun _ => wp_nil ⟨rfl, [], (List.append_nil S).symm⟩)
  rw [h] at hh
  cases hh
theorem fin_ex {S : Store} {c : Nat} {s : Sl} {keep : Bool} : fin S keep (.ex c [] s S) = .ex c [] S := by
  unfold fin
  simp only [flat_same, List.all_nil, Bool.and_self, if_true, List.take_length]
theorem s_check_bad {x : D} (hx : pd x = true) (h : webB x = false) : callF P n (d + 3) 2 [x] S = .ex 0 [] S := by
  rw [call_at (f := f2) rfl rfl]
  have e : execs (callF P n (d + 2)) n f2.body (List.map some [x] ++ List.replicate (f2.ns - [x].length) none) S = .ex 0 [] [some x] S := by
    show execs (callF P n (d + 2)) n [.iff (.not (.call 1 [(.var 0)])) [.raise 0 [(.con (.str [110, 111, 32, 119, 101, 98]))]] []] [some x] S = _
    have e1 := ev_not (ev_call1 (f := 1) (ev_var (cf := callF P n (d + 2)) (s := [some x]) (S := S) (i := 0) rfl) (s_is_web (n := n) (d := d) hx))
    rw [h] at e1
    rw [execs, exec, e1]
    simp only [bindF, Bool.not_false, execs, exec, evalEs, evalE, R.bind_ok]
  rw [e]
  exact fin_ex
/-- the first, the second -/
def c0 : D → D
  | .tup (p :: _) => p
  | _ => .non
def c1 : D → D
  | .tup (_ :: q :: _) => q
  | _ => .non
/-- unlike pairs -/
def unlikeB (rows : List D) (x : Int) (e f : D) : Bool := pairB rows x e && pairB rows x f && !decide (shr rows (natOf (c0 e)) (natOf (c1 e)) =
  shr rows (natOf (c0 f)) (natOf (c1 f)))
theorem pairB_eq {rows : List D} {x : Int} {e : D} (h : pairB rows x e = true) : ∃ a b : Nat, e = .tup [.int (a : Int), .int (b : Int)] ∧ a < rows.length ∧ b < rows.length ∧ a ≠ b ∧ ent rows a b = x := by
  cases e with
  | tup l =>
    match l, h with
    | [p, q], h =>
      simp only [pairB, Bool.and_eq_true, Bool.not_eq_true', decide_eq_false_iff_not, decide_eq_true_eq] at h
      obtain ⟨⟨⟨h1, h2⟩, h3⟩, h4⟩ := h
      obtain ⟨p1, p2⟩ := point_of h1
      obtain ⟨q1, q2⟩ := point_of h2
      exact ⟨natOf p, natOf q, by rw [← p1, ← q1], p2, q2, h3, h4⟩
    | [], h => cases h
    | [_], h => cases h
    | _ :: _ :: _ :: _, h => cases h
  | _ => cases h
theorem s_unlike {rows : List D} {e f : D} {x : Int} (w : Rw rows) (he : pd e = true) (hf : pd f = true) : callF P n (d + 4) 8 [.tup rows, e, f, .int x] S = .ok (.bl (unlikeB rows x e f)) S := by
  refine call_pure (f := f8) rfl rfl rfl rfl ?_
  have h1 := ev_call3 (f := 7) (ev_var (cf := callF P n (d + 3)) (s := [some (.tup rows), some e, some f, some (.int x)]) (S := S) (i := 0) rfl) (ev_var (i := 1) rfl) (ev_var (i := 3) rfl) (s_is_pair (n := n) (d := d) (x := x) w he)
  have h2 := ev_call3 (f := 7) (ev_var (cf := callF P n (d + 3)) (s := [some (.tup rows), some e, some f, some (.int x)]) (S := S) (i := 0) rfl) (ev_var (i := 2) rfl) (ev_var (i := 3) rfl) (s_is_pair (n := n) (d := d) (x := x) w hf)
  refine wp_ret (S1 := S) (x := .bl (unlikeB rows x e f)) ?_ ⟨rfl, [], (List.append_nil S).symm⟩
  have e3 : unlikeB rows x e f = (pairB rows x e && (pairB rows x f && !decide (shr rows (natOf (c0 e)) (natOf (c1 e)) =
    shr rows (natOf (c0 f)) (natOf (c1 f))))) := by
    unfold unlikeB
    rw [Bool.and_assoc]
  rw [e3]
  refine ev_and h1 fun p1 => ev_and h2 fun p2 => ev_and1 ?_
  obtain ⟨a, b, rfl, ha, hb, _, _⟩ := pairB_eq p1
  obtain ⟨a', b', rfl, ha', hb', _, _⟩ := pairB_eq p2
  simp only [c0, c1, natOf_int]
  have g1 := ev_call3 (f := 3) (ev_var (cf := callF P n (d + 3)) (s := [some (.tup rows), some (.tup [.int (a : Int), .int (b : Int)]), some (.tup [.int (a' : Int), .int (b' : Int)]), some (.int x)]) (S := S) (i := 0) rfl) (ev_ixc (k := 0) (ev_var (i := 1) rfl) rfl) (ev_ixc (k := 1) (ev_var (i := 1) rfl) rfl) (s_common_of (n := n) (d := d + 2) w ha hb)
  have g2 := ev_call3 (f := 3) (ev_var (cf := callF P n (d + 3)) (s := [some (.tup rows), some (.tup [.int (a : Int), .int (b : Int)]), some (.tup [.int (a' : Int), .int (b' : Int)]), some (.int x)]) (S := S) (i := 0) rfl) (ev_ixc (k := 0) (ev_var (i := 2) rfl) rfl) (ev_ixc (k := 1) (ev_var (i := 2) rfl) rfl) (s_common_of (n := n) (d := d + 2) w ha' hb')
  exact ev_nei g1 g2
/-- the valency's paper -/
def valB2 (rows : List D) (p q : D) : Bool := pointB rows.length p && pointB rows.length q && !decide (deg rows (natOf p) = deg rows (natOf q))
theorem s_valency {rows : List D} {p q : D} (w : Rw rows) (hp : pd p = true) (hq : pd q = true) : callF P n (d + 3) 9 [.tup rows, p, q] S = .ok (.bl (valB2 rows p q)) S := by
  refine call_pure (f := f9) rfl rfl rfl rfl ?_
  have h1 := ev_call2 (f := 6) (ev_var (cf := callF P n (d + 2)) (s := [some (.tup rows), some p, some q]) (S := S) (i := 1) rfl) (ev_len (ev_var (i := 0) rfl)) (s_is_point (n := n) (d := d) (v := rows.length) hp)
  have h2 := ev_call2 (f := 6) (ev_var (cf := callF P n (d + 2)) (s := [some (.tup rows), some p, some q]) (S := S) (i := 2) rfl) (ev_len (ev_var (i := 0) rfl)) (s_is_point (n := n) (d := d) (v := rows.length) hq)
  refine wp_ret (S1 := S) (x := .bl (valB2 rows p q)) ?_ ⟨rfl, [], (List.append_nil S).symm⟩
  have e3 : valB2 rows p q = (pointB rows.length p && (pointB rows.length q && !decide (deg rows (natOf p) = deg rows (natOf q)))) := by
    unfold valB2
    rw [Bool.and_assoc]
  rw [e3]
  refine ev_and h1 fun p1 => ev_and h2 fun p2 => ev_and1 ?_
  obtain ⟨ep, lp⟩ := point_of p1
  obtain ⟨eq, lq⟩ := point_of p2
  refine ev_nei (ev_deg w lp (ev_var rfl) ?_) (ev_deg w lq (ev_var rfl) ?_)
  · rw [← ep]; exact ev_var rfl
  · rw [← eq]; exact ev_var rfl
end
end K84
end
section
set_option maxRecDepth 100000
set_option maxHeartbeats 1000000
/-! K84t: takes_web. -/
namespace K84
open DI
def wWeb : List Nat := [119, 101, 98]
def wWhole : List Nat := [119, 104, 111, 108, 101]
def wVal : List Nat := [118, 97, 108, 101, 110, 99, 121]
def wJoin : List Nat := [106, 111, 105, 110, 101, 100]
def wApart : List Nat := [97, 112, 97, 114, 116]
/-- all degrees together -/
def tot (rows : List D) : Int := (rows.map sumD).sum
def c2 : D → D
  | .tup (_ :: _ :: q :: _) => q
  | _ => .non
open Classical in
/-- the numbers stand in the paper -/
noncomputable def numB (rows : List D) (x : D) : Bool := decide (∃ k l m, Good rows k l m ∧ x = .tup [.str wWeb, .int k, .int l, .int m])
def wholeB (rows : List D) : Bool := decide (tot rows = 0) || decide (tot rows = rows.length * (rows.length - 1))
/-- a paper that holds -/
noncomputable def holdsB (rows : List D) (x : D) : Bool :=
  if formB wWeb 4 x then numB rows x else if formB wWhole 1 x then wholeB rows else if formB wVal 3 x then valB2 rows (c1 x) (c2 x) else
  if formB wJoin 3 x then unlikeB rows 1 (c1 x) (c2 x) else formB wApart 3 x && unlikeB rows 0 (c1 x) (c2 x)
section
variable {n d : Nat} {S : Store}
variable {cf : Nat → List D → Store → R D} {s : Sl} {S1 : Store} {a b c : E} {x y : D} {ds : List D}
theorem cut1 {l : List D} : cutD l (some 1) none = l.drop 1 := by
  unfold cutD
  have e1 : HT.sIx l.length 0 (some 1) = min 1 l.length := by
    unfold HT.sIx
    simp
    try omega
  have e2 : HT.sIx l.length l.length none = l.length := by
    unfold HT.sIx
    simp
  rw [e1, e2]
  cases l with
  | nil => rfl
  | cons a l =>
    have : min 1 (a :: l).length = 1 := by simp
    rw [this]
    apply List.take_of_length_le
    simp
theorem ev_sl1 {l : List D} (h : evalE cf a s S = .ok (.tup l) S1) : evalE cf (.sl a (some (.con (.int 1))) none) s S = .ok (.tup (l.drop 1)) S1 := by
  rw [evalE, h, R.bind_ok, evalO, ev_con, R.bind_ok, R.bind_ok, evalO, R.bind_ok]
  show R.ok (D.tup (cutD l (some 1) none)) S1 = _
  rw [cut1]
theorem ev_tot {rows : List D} {i : Nat} (w : Rw rows) (ha : evalE cf a s S = .ok (.tup rows) S) (hi : i < s.length) : evalE cf (.bi .sum (.cmph false (.bi .sum (.var i)) (.nm i) (.seq a) [] [i])) s S = .ok (.int (tot rows)) S := by
  have hhi := w.hi
  refine ev_sum sumD (it_seq ha) rfl (by simp only [lim]; omega) fun r hr => ⟨_, rfl, ?_⟩
  obtain ⟨j, hj, rfl⟩ := row_mem w hr
  rw [sumD_row]
  exact ev_sumt (ev_var (List.getElem?_set_self (by simp only [wipeD, List.length_set]; exact hi)))
theorem ev_in2 {t i j : Int} (ha : evalE cf a s S = .ok (.int t) S) (hb : evalE cf b s S = .ok (.int i) S) (hc : evalE cf c s S = .ok (.int j) S) : evalE cf (.isIn false a (.tup [b, c])) s S = .ok (.bl (decide (t = i) || decide (t = j))) S := by
  rw [evalE, ha, R.bind_ok, evalE, evalEs, hb, R.bind_ok, evalEs, hc, R.bind_ok, evalEs, R.bind_ok, R.bind_ok, R.bind_ok]
  show R.ok (D.bl (i == t || (j == t || false))) S = _
  congr 2
  rw [Bool.or_false, Bool.beq_eq_decide_eq, Bool.beq_eq_decide_eq]
  congr 1
  · exact decide_eq_decide.mpr ⟨Eq.symm, Eq.symm⟩
  · exact decide_eq_decide.mpr ⟨Eq.symm, Eq.symm⟩
theorem small_mul {v : Nat} (h : v ≤ 64) : mulOk (v : Int) ((v : Int) - 1) = true := by
  unfold mulOk
  have : decide ((v : Int).natAbs < 2 ^ 64) = true := decide_eq_true (by
    have : (2 : Nat) ^ 64 = 18446744073709551616 := by decide
    rw [this]
    omega)
  rw [this]
  simp only [Bool.true_or]
theorem ev_whole {rows : List D} {i : Nat} (w : Rw rows) (ha : ∀ S, evalE cf a s S = .ok (.tup rows) S) (hi : i < s.length) (hb : evalE cf b s S = .ok (.int (rows.length : Int)) S) : evalE cf (.isIn false (.bi .sum (.cmph false (.bi .sum (.var i)) (.nm i) (.seq a) [] [i])) (.tup [(.con (.int 0)), (.bin .Mult b (.bin .Sub b (.con (.int 1))))])) s S = .ok (.bl (wholeB rows)) S :=
  ev_in2 (ev_tot w (ha S) hi) ev_con (ev_muli hb (ev_subi hb ev_con) (small_mul w.hi))
end
end K84
end
section
set_option maxRecDepth 100000
set_option maxHeartbeats 1000000
/-! K84u: takes_web told. -/
namespace K84
open DI
section
variable {n d : Nat} {S : Store}
variable {cf : Nat → List D → Store → R D} {s : Sl} {S1 : Store} {a b c : E} {x y : D} {ds : List D}
theorem wp_ex {k : Kt} {nn : Nat} (h : evalE cf a s S = .ok x S1) (h1 : k.nx s S1) : wpF (exec cf nn (.ex a) s S) k := by
  rw [exec, h]
  exact h1
theorem good_one {rows : List D} (w : Rw rows) {k l m k' l' m' : Int} (g : Good rows k l m) (g' : Good rows k' l' m') : k = k' ∧ l = l' ∧ m = m' := by
  have h0 : 0 < rows.length := by have := w.lo; omega
  have e1 : k = k' := by rw [← g.reg 0 h0, g'.reg 0 h0]
  obtain ⟨c, hc, hcl, he⟩ := some_one w (by rw [g.reg 0 h0]; exact g.lo)
  obtain ⟨c', hc', hcl', he'⟩ := some_zero w (by rw [g.reg 0 h0]; exact g.hi)
  have a1 := g.shr c 0 hc hcl
  have a2 := g'.shr c 0 hc hcl
  have b1 := g.shr c' 0 hc' hcl'
  have b2 := g'.shr c' 0 hc' hcl'
  rw [if_pos he] at a1 a2
  rw [if_neg (by rw [he']; decide)] at b1 b2
  exact ⟨e1, by rw [← a1, a2], by rw [← b1, b2]⟩
theorem ev_addt {u v : List D} (ha : evalE cf a s S = .ok (.tup u) S) (hb : evalE cf b s S = .ok (.tup v) S) (h : u.length + v.length ≤ lim) : evalE cf (.bin .Add a b) s S = .ok (.tup (u ++ v)) S := by
  rw [evalE, ha, R.bind_ok, hb, R.bind_ok]
  show (if u.length + v.length ≤ lim then R.ok (D.tup (u ++ v)) S else R.no) = _
  rw [if_pos h]
theorem ev_tup1 (ha : evalE cf a s S = .ok x S) : evalE cf (.tup [a]) s S = .ok (.tup [x]) S := by
  rw [evalE, evalEs, ha, R.bind_ok, evalEs, R.bind_ok, R.bind_ok]
  rfl
theorem all_isInt {l : List D} (h : l.all isIntB = true) : ∃ is : List Int, l = is.map .int := by
  induction l with
  | nil => exact ⟨[], rfl⟩
  | cons x l ih =>
    rw [List.all_cons, Bool.and_eq_true] at h
    obtain ⟨is, rfl⟩ := ih h.2
    cases x with
    | int i => exact ⟨i :: is, rfl⟩
    | _ => cases h.1
theorem pd_sub {u : List Nat} {l : List D} (h : pd (.tup (.str u :: l)) = true) : ∀ x, x ∈ l → pd x = true := fun x hx => pd_tup.mp h x (List.mem_cons_of_mem _ hx)
theorem form_len3 {w : List Nat} {x : D} (h : formB w 3 x = true) (hx : pd x = true) : ∃ p q, x = .tup [.str w, p, q] ∧ pd p = true ∧ pd q = true := by
  obtain ⟨ds, rfl, hl⟩ := formB_eq h
  match ds, hl, hx with
  | [p, q], _, hx => exact ⟨p, q, rfl, pd_sub hx p (by simp), pd_sub hx q (by simp)⟩
  | [], hl, _ => exact absurd hl (by decide)
  | [_], hl, _ => simp at hl
  | _ :: _ :: _ :: _, hl, _ => simp at hl
theorem form_len4 {w : List Nat} {x : D} (h : formB w 4 x = true) (hx : pd x = true) : ∃ p q r, x = .tup [.str w, p, q, r] ∧ pd p = true ∧ pd q = true ∧ pd r = true := by
  obtain ⟨ds, rfl, hl⟩ := formB_eq h
  match ds, hl, hx with
  | [p, q, r], _, hx => exact ⟨p, q, r, rfl, pd_sub hx p (by simp), pd_sub hx q (by simp), pd_sub hx r (by simp)⟩
  | [], hl, _ => exact absurd hl (by decide)
  | [_], hl, _ => simp at hl
  | [_, _], hl, _ => simp at hl
  | _ :: _ :: _ :: _ :: _, hl, _ => simp at hl
open Classical in
theorem numB_f {rows : List D} {x : D} (h : ¬ ∃ k l m, Good rows k l m ∧ x = .tup [.str wWeb, .int k, .int l, .int m]) : numB rows x = false := by
  unfold numB
  exact decide_eq_false h
open Classical in
theorem numB_t {rows : List D} {x : D} (h : ∃ k l m, Good rows k l m ∧ x = .tup [.str wWeb, .int k, .int l, .int m]) : numB rows x = true := by
  unfold numB
  exact decide_eq_true h
theorem numB_non {rows : List D} {u p q r : D} (h : [p, q, r].all isIntB = false) : numB rows (.tup [u, p, q, r]) = false := by
  refine numB_f ?_
  rintro ⟨k, l, m, _, e⟩
  simp only [D.tup.injEq, List.cons.injEq] at e
  obtain ⟨_, rfl, rfl, rfl, _⟩ := e
  cases h
theorem numB_at {rows : List D} (w : Rw rows) {r : D} (hr : R4 rows r) {p q t : Int} : numB rows (.tup [.str wWeb, .int p, .int q, .int t]) = deq r (.tup [.int (rows.length : Int), .int p, .int q, .int t]) := by
  rcases hr with ⟨rfl, hn⟩ | ⟨k, l, m, g, rfl⟩
  · refine numB_f ?_
    rintro ⟨k, l, m, g, _⟩
    exact hn k l m g
  · simp only [deq, deqs, beq_self_eq_true, Bool.true_and, Bool.and_true]
    by_cases hh : k = p ∧ l = q ∧ m = t
    · obtain ⟨rfl, rfl, rfl⟩ := hh
      simp only [beq_self_eq_true, Bool.and_self]
      exact numB_t ⟨k, l, m, g, rfl⟩
    · have e1 : numB rows (.tup [.str wWeb, .int p, .int q, .int t]) = false := by
        refine numB_f ?_
        rintro ⟨k', l', m', g', e⟩
        simp only [D.tup.injEq, List.cons.injEq, D.int.injEq] at e
        obtain ⟨_, rfl, rfl, rfl, _⟩ := e
        exact hh (good_one w g g')
      rw [e1]
      symm
      apply Bool.eq_false_iff.mpr
      intro h
      simp only [Bool.and_eq_true, beq_iff_eq] at h
      exact hh h
theorem R4_pd {rows : List D} {r : D} (hr : R4 rows r) : pd r = true ∧ dep r ≤ 64 := by
  rcases hr with ⟨rfl, _⟩ | ⟨k, l, m, _, rfl⟩
  · exact ⟨rfl, by decide⟩
  · refine ⟨rfl, ?_⟩
    show max 0 (max 0 (max 0 (max 0 0))) + 1 ≤ 64
    decide
theorem s_takes {rows : List D} {x : D} (w : Rw rows) (hr : webB (.tup rows) = true) (hp : pd (.tup rows) = true) (hx : pd x = true) : callF P n (d + 5) 10 [.tup rows, x] S = .ok (.bl (holdsB rows x)) S := by
  refine call_pure (f := f10) rfl rfl rfl rfl ?_
  have hb : ∀ (S : Store), evalE (callF P n (d + 4)) (.var 0) [some (.tup rows), some x, none, none] S = .ok (.tup rows) S := fun S => ev_var rfl
  have hb1 : ∀ (S : Store), evalE (callF P n (d + 4)) (.var 1) [some (.tup rows), some x, none, none] S = .ok x S := fun S => ev_var rfl
  have hlen : ∀ (S : Store), evalE (callF P n (d + 4)) (.bi .len (.var 0)) [some (.tup rows), some x, none, none] S = .ok (.int (rows.length : Int)) S := fun S => ev_len (hb S)
  have fm : ∀ (w : List Nat) (m : Nat), pd (.str w) = true → 0 < m → evalE (callF P n (d + 4)) (.call 5 [(.var 1), (.con (.str w)), (.con (.int (m : Int)))]) [some (.tup rows), some x, none, none] S = .ok (.bl (formB w m x)) S := fun w m h1 h2 => ev_call3 (hb1 S) ev_con ev_con (s_is_paper (d := d + 3) hx h1 h2)
  refine wp_cons (wp_ex (ev_call1 (f := 2) (hb S) (s_check (d := d + 1) hp hr)) ?_)
  refine wp_cons (wp_iff (S1 := S) (fm wWeb 4 rfl (by decide)) (fun h1 => ?_) fun h1 => wp_nil ?_)
  · have e0 : holdsB rows x = numB rows x := by unfold holdsB; rw [if_pos h1]
    rw [e0]
    obtain ⟨p, q, r, rfl, hp1, hq1, hr1⟩ := form_len4 h1 hx
    refine wp_ret (S1 := S) ?_ ⟨rfl, [], (List.append_nil S).symm⟩
    have hsl : ∀ S, evalE (callF P n (d + 4)) (.sl (.var 1) (some (.con (.int 1))) none) [some (.tup rows), some (.tup [.str wWeb, p, q, r]), none, none] S = .ok (.tup [p, q, r]) S := fun S => ev_sl1 (hb1 S)
    have hall : evalE (callF P n (d + 4)) (.bi .all (.cmph false (.call 0 [(.var 2)]) (.nm 2) (.seq (.sl (.var 1) (some (.con (.int 1))) none)) [] [2])) [some (.tup rows), some (.tup [.str wWeb, p, q, r]), none, none] S = .ok (.bl ([p, q, r].all isIntB)) S :=
      ev_all isIntB (it_seq (hsl S)) rfl (show 3 ≤ lim by decide) fun y hy => ⟨_, rfl, ev_call1 (ev_var rfl) (s_is_integer (d := d + 3) (by
        simp only [List.mem_cons, List.not_mem_nil, or_false] at hy
        rcases hy with rfl | rfl | rfl <;> assumption))⟩
    obtain ⟨v, hv, hc⟩ := s_numbers_of (n := n) (d := d + 2) (S := S) w
    cases hi : [p, q, r].all isIntB with
    | false =>
      rw [numB_non hi]
      rw [hi] at hall
      exact ev_and (q := false) hall fun h => by cases h
    | true =>
      rw [hi] at hall
      obtain ⟨is, e⟩ := all_isInt hi
      match is, e with
      | [i, j, t], e =>
        simp only [List.map_cons, List.map_nil, List.cons.injEq, and_true] at e
        obtain ⟨rfl, rfl, rfl⟩ := e
        rw [numB_at w hv]
        have h3 := ev_addt (ev_tup1 (hlen S)) (hsl S) (show 1 + 3 ≤ lim by decide)
        exact ev_and hall fun _ => ev_and1 (ev_eq (ev_call1 (hb S) hc) h3 (R4_pd hv).1 rfl (R4_pd hv).2 (by
          show max 0 (max 0 (max 0 (max 0 0))) + 1 ≤ 64
          decide))
      | [], e => simp at e
      | [_], e => simp at e
      | [_, _], e => simp at e
      | _ :: _ :: _ :: _ :: _, e => simp at e
  refine wp_cons (wp_iff (S1 := S) (fm wWhole 1 rfl (by decide)) (fun h2 => ?_) fun h2 => wp_nil ?_)
  · have e0 : holdsB rows x = wholeB rows := by unfold holdsB; rw [if_neg (by rw [h1]; decide), if_pos h2]
    rw [e0]
    exact wp_ret (S1 := S) (ev_whole w hb (show 3 < 4 by decide) (hlen S)) ⟨rfl, [], (List.append_nil S).symm⟩
  refine wp_cons (wp_iff (S1 := S) (fm wVal 3 rfl (by decide)) (fun h3 => ?_) fun h3 => wp_nil ?_)
  · have e0 : holdsB rows x = valB2 rows (c1 x) (c2 x) := by unfold holdsB; rw [if_neg (by rw [h1]; decide), if_neg (by rw [h2]; decide), if_pos h3]
    rw [e0]
    obtain ⟨p, q, rfl, hp1, hq1⟩ := form_len3 h3 hx
    exact wp_ret (S1 := S) (ev_call3 (hb S) (ev_ixc (k := 1) (hb1 S) rfl) (ev_ixc (k := 2) (hb1 S) rfl) (s_valency (d := d + 1) w hp1 hq1)) ⟨rfl, [], (List.append_nil S).symm⟩
  refine wp_cons (wp_iff (S1 := S) (fm wJoin 3 rfl (by decide)) (fun h4 => ?_) fun h4 => wp_nil ?_)
  · have e0 : holdsB rows x = unlikeB rows 1 (c1 x) (c2 x) := by unfold holdsB; rw [if_neg (by rw [h1]; decide), if_neg (by rw [h2]; decide), if_neg (by rw [h3]; decide), if_pos h4]
    rw [e0]
    obtain ⟨p, q, rfl, hp1, hq1⟩ := form_len3 h4 hx
    exact wp_ret (S1 := S) (ev_call4 (hb S) (ev_ixc (k := 1) (hb1 S) rfl) (ev_ixc (k := 2) (hb1 S) rfl) ev_con (s_unlike (d := d) w hp1 hq1)) ⟨rfl, [], (List.append_nil S).symm⟩
  have e0 : holdsB rows x = (formB wApart 3 x && unlikeB rows 0 (c1 x) (c2 x)) := by unfold holdsB; rw [if_neg (by rw [h1]; decide), if_neg (by rw [h2]; decide), if_neg (by rw [h3]; decide), if_neg (by rw [h4]; decide)]
  rw [e0]
  refine wp_ret (S1 := S) (ev_and (fm wApart 3 rfl (by decide)) fun h5 => ev_and1 ?_) ⟨rfl, [], (List.append_nil S).symm⟩
  obtain ⟨p, q, rfl, hp1, hq1⟩ := form_len3 h5 hx
  exact ev_call4 (hb S) (ev_ixc (k := 1) (hb1 S) rfl) (ev_ixc (k := 2) (hb1 S) rfl) ev_con (s_unlike (d := d) w hp1 hq1)
end
end K84
end
section
set_option maxRecDepth 100000
set_option maxHeartbeats 1000000
/-! K84v: _law_same on the numbers. -/
namespace K84
open DI
section
variable {n d : Nat} {S : Store}
variable {cf : Nat → List D → Store → R D} {s : Sl} {S1 : Store} {a b c : E} {x y : D} {ds : List D}
theorem int_eq {x : D} (h : isIntB x = true) : ∃ i : Int, x = .int i := by
  cases x with
  | int i => exact ⟨i, rfl⟩
  | _ => cases h
theorem s_same_int {p : D} {k : Int} (hp : pd p = true) : callF P n (d + 2) 19 [p, .int k] S = .ok (.bl (decide (p = .int k))) S := by
  refine call_pure (f := f19) rfl rfl rfl rfl ?_
  have hb : ∀ (S : Store), evalE (callF P n (d + 1)) (.var 0) [some p, some (.int k), none] S = .ok p S := fun S => ev_var rfl
  have hb1 : ∀ (S : Store), evalE (callF P n (d + 1)) (.var 1) [some p, some (.int k), none] S = .ok (.int k) S := fun S => ev_var rfl
  refine wp_cons (wp_iff (S1 := S) (ev_isi (t := .tuple) (hb1 S) rfl) (fun h => by cases h) fun _ => wp_nil ?_)
  refine wp_cons (wp_iff (S1 := S) (ev_isi (t := .str) (hb1 S) rfl) (fun h => by cases h) fun _ => wp_nil ?_)
  refine wp_cons (wp_iff (S1 := S) (ev_isnon (hb1 S)) (fun h => by simp at h) fun _ => wp_nil ?_)
  refine wp_ret (S1 := S) (x := .bl (decide (p = .int k))) ?_ ⟨rfl, [], (List.append_nil S).symm⟩
  have h1 := ev_call1 (f := 18) (hb S) (s_is_whole (n := n) (d := d) hp)
  cases hi : isIntB p with
  | false =>
    have : decide (p = .int k) = false := decide_eq_false (by rintro rfl; cases hi)
    rw [this]
    rw [hi] at h1
    exact ev_and (q := false) h1 fun h => by cases h
  | true =>
    rw [hi] at h1
    obtain ⟨i, rfl⟩ := int_eq hi
    have e2 := ev_and (p := true) (q := decide (i = k)) h1 fun _ => ev_and1 (ev_eqi (hb S) (hb1 S))
    have e3 : decide ((D.int i) = .int k) = (true && decide (i = k)) := by
      rw [Bool.true_and]
      exact decide_eq_decide.mpr ⟨fun h => by cases h; rfl, fun h => by rw [h]⟩
    rw [e3]
    exact e2
theorem ints_eq {xs ys : List D} (h : xs.length = ys.length) : decide (xs = ys) = (List.range ys.length).all fun i => decide (xs.getD i .non = ys.getD i .non) := by
  rw [Bool.eq_iff_iff, decide_eq_true_iff, List.all_eq_true]
  constructor
  · rintro rfl i _
    exact decide_eq_true rfl
  · intro hh
    apply List.ext_getElem h
    intro i h1 h2
    have := of_decide_eq_true (hh i (List.mem_range.mpr h2))
    rw [List.getD_eq_getElem?_getD, List.getD_eq_getElem?_getD, List.getElem?_eq_getElem h1, List.getElem?_eq_getElem h2] at this
    exact this
theorem s_same {xs ys : List D} (hx : ∀ x, x ∈ xs → pd x = true) (hy : ∀ y, y ∈ ys → isIntB y = true) (hl : ys.length ≤ 16777216) : callF P n (d + 3) 19 [.tup xs, .tup ys] S = .ok (.bl (decide (xs = ys))) S := by
  refine call_pure (f := f19) rfl rfl rfl rfl ?_
  have hb : ∀ (u : Option D) (S : Store), evalE (callF P n (d + 2)) (.var 0) [some (.tup xs), some (.tup ys), u] S = .ok (.tup xs) S := fun u S => ev_var rfl
  have hb1 : ∀ (u : Option D) (S : Store), evalE (callF P n (d + 2)) (.var 1) [some (.tup xs), some (.tup ys), u] S = .ok (.tup ys) S := fun u S => ev_var rfl
  have ht : pd (.tup xs) = true := pd_tup.mpr hx
  have hty : pd (.tup ys) = true := pd_tup.mpr fun y h => by
    obtain ⟨i, rfl⟩ := int_eq (hy y h)
    rfl
  have l3 : evalE (callF P n (d + 2)) (.cmp .Eq (.bi .len (.var 0)) (.bi .len (.var 1))) [some (.tup xs), some (.tup ys), none] S = .ok (.bl (decide ((xs.length : Int) = ys.length))) S := ev_eqi (ev_len (hb none S)) (ev_len (hb1 none S))
  refine wp_cons (wp_iff (S1 := S) (ev_isi (t := .tuple) (hb1 none S) hty) (fun h => ?_) fun h => by cases h)
  refine wp_ret (S1 := S) (x := .bl (decide (xs = ys))) ?_ ⟨rfl, [], (List.append_nil S).symm⟩
  have h0 := ev_isi (t := .tuple) (hb none S) ht
  by_cases he : xs.length = ys.length
  · rw [decide_eq_true (by rw [he])] at l3
    have e0 : decide (xs = ys) = (true && (true && (List.range ys.length).all fun i => decide (xs.getD i .non = ys.getD i .non))) := by rw [Bool.true_and, Bool.true_and]; exact ints_eq he
    rw [e0]
    refine ev_and (p := true) h0 fun _ => ev_and (p := true) l3 fun _ => ev_and1 ?_
    refine ev_all_rng _ (it_rng (ev_len (hb1 none S)) hl) hl fun i hi => ⟨_, rfl, ?_⟩
    have hi' : i < xs.length := by rw [he]; exact hi
    have h1 : xs[i]? = some xs[i] := List.getElem?_eq_getElem hi'
    have h2 : ys[i]? = some ys[i] := List.getElem?_eq_getElem hi
    obtain ⟨k', ek⟩ := int_eq (hy ys[i] (List.getElem_mem hi))
    have g1 : xs.getD i .non = xs[i] := by rw [List.getD_eq_getElem?_getD, h1]; rfl
    have g2 : ys.getD i .non = .int k' := by rw [List.getD_eq_getElem?_getD, h2, ek]; rfl
    rw [g1, g2]
    rw [ek] at h2
    exact ev_call2 (ev_ix (hb _ S) (ev_var rfl) h1) (ev_ix (hb1 _ S) (ev_var rfl) h2) (s_same_int (d := d) (hx _ (List.getElem_mem hi')))
  · have e0 : decide (xs = ys) = false := decide_eq_false fun h => he (by rw [h])
    rw [decide_eq_false (by omega)] at l3
    rw [e0]
    exact ev_and (p := true) (q := false) h0 fun _ => ev_and (p := false) (q := false) l3 fun h => by cases h
end
end K84
end
section
set_option maxRecDepth 100000
set_option maxHeartbeats 1000000
/-! K84w: _law_web_numbers. -/
namespace K84
open DI
section
variable {n d : Nat} {S : Store}
variable {cf : Nat → List D → Store → R D} {s : Sl} {S1 : Store} {a b c : E} {x y : D} {ds : List D}
theorem dedup_ge {l : List Int} : ∀ {acc : List Int}, acc.length ≤ (dedup acc l).length := by
  induction l with
  | nil => intro acc; exact Nat.le_refl _
  | cons x l ih =>
    intro acc
    rw [dedup]
    split
    · exact ih
    · exact Nat.le_trans (by simp) (ih (acc := acc ++ [x]))
theorem dedup_one {l : List Int} {u : Int} : (dedup [u] l).length = 1 ↔ ∀ x, x ∈ l → x = u := by
  induction l with
  | nil => simp [dedup]
  | cons x l ih =>
    rw [dedup]
    by_cases h : x = u
    · subst h
      rw [if_pos (by simp)]
      simp [ih]
    · rw [if_neg (by simp; exact fun e => h e.symm)]
      have := dedup_ge (l := l) (acc := [u] ++ [x])
      have e : ([u] ++ [x] : List Int).length = 2 := rfl
      constructor
      · intro h2; omega
      · intro h2; exact absurd (h2 x (by simp)) h
/-- one value, and which -/
theorem dedup_same {l : List Int} : (dedup [] l).length = 1 ↔ ∃ u, l.head? = some u ∧ ∀ x, x ∈ l → x = u := by
  cases l with
  | nil => simp [dedup]
  | cons u l =>
    rw [dedup, if_neg (by simp)]
    show (dedup [u] l).length = 1 ↔ _
    rw [dedup_one]
    simp
theorem ev_lset {l : List Int} (ha : evalE cf a s S = .ok x S) (hx : (listOf S x) = some (l.map .int)) (hl : l.length ≤ 4000) : evalE cf (.lset a) s S = .ok (.int ((dedup [] l).length : Int)) S := by
  rw [evalE, ha, R.bind_ok, hx, Option.bind_some, ints?_map, opt_some, if_pos hl]
/-- the told pairs ahead of (a, b): those joined and those apart -/
structure Two (rows : List D) (J A : List Int) (a b : Nat) : Prop where
  on : ∀ i j, j < i → (i < a ∨ (i = a ∧ j < b)) → if ent rows i j = 1 then shr rows i j ∈ J else shr rows i j ∈ A
  jj : ∀ x, x ∈ J → ∃ i j, j < i ∧ i < rows.length ∧ ent rows i j = 1 ∧ shr rows i j = x
  aa : ∀ x, x ∈ A → ∃ i j, j < i ∧ i < rows.length ∧ ent rows i j ≠ 1 ∧ shr rows i j = x
  jl : 2 * J.length ≤ a * a + 2 * b
  al : 2 * A.length ≤ a * a + 2 * b
theorem Two.addJ {rows : List D} {J A : List Int} {a b : Nat} (t : Two rows J A a b) (ha : a < rows.length) (hb : b < a) (h : ent rows a b = 1) : Two rows (J ++ [shr rows a b]) A a (b + 1) where
  on := fun i j hji hlt => by
    by_cases e : i = a ∧ j = b
    · obtain ⟨rfl, rfl⟩ := e
      rw [if_pos h]
      simp
    · have := t.on i j hji (by omega)
      split at this
      · rw [if_pos (by assumption)]
        exact List.mem_append_left _ this
      · rw [if_neg (by assumption)]
        exact this
  jj := fun x hx => by
    rcases List.mem_append.mp hx with hx | hx
    · exact t.jj x hx
    · rw [List.mem_singleton] at hx
      exact ⟨a, b, hb, ha, h, hx.symm⟩
  aa := t.aa
  jl := by
    have := t.jl
    rw [List.length_append, List.length_singleton]
    omega
  al := by
    have := t.al
    omega
theorem Two.addA {rows : List D} {J A : List Int} {a b : Nat} (t : Two rows J A a b) (ha : a < rows.length) (hb : b < a) (h : ¬ ent rows a b = 1) : Two rows J (A ++ [shr rows a b]) a (b + 1) where
  on := fun i j hji hlt => by
    by_cases e : i = a ∧ j = b
    · obtain ⟨rfl, rfl⟩ := e
      rw [if_neg h]
      simp
    · have := t.on i j hji (by omega)
      split at this
      · rw [if_pos (by assumption)]
        exact this
      · rw [if_neg (by assumption)]
        exact List.mem_append_left _ this
  aa := fun x hx => by
    rcases List.mem_append.mp hx with hx | hx
    · exact t.aa x hx
    · rw [List.mem_singleton] at hx
      exact ⟨a, b, hb, ha, h, hx.symm⟩
  jj := t.jj
  al := by
    have := t.al
    rw [List.length_append, List.length_singleton]
    omega
  jl := by
    have := t.jl
    omega
theorem Two.next {rows : List D} {J A : List Int} {a : Nat} (t : Two rows J A a a) : Two rows J A (a + 1) 0 where
  on := fun i j hji hlt => t.on i j hji (by omega)
  jj := t.jj
  aa := t.aa
  jl := by
    have := t.jl
    have e : (a + 1) * (a + 1) = a * a + a + a + 1 := by simp only [Nat.add_mul, Nat.mul_add, Nat.one_mul, Nat.mul_one]; omega
    omega
  al := by
    have := t.al
    have e : (a + 1) * (a + 1) = a * a + a + a + 1 := by simp only [Nat.add_mul, Nat.mul_add, Nat.one_mul, Nat.mul_one]; omega
    omega
theorem Two.good {rows : List D} {J A : List Int} (t : Two rows J A rows.length 0) {k l m : Int} (g : Good rows k l m) : (∀ x, x ∈ J → x = l) ∧ ∀ x, x ∈ A → x = m := by
  refine ⟨fun x hx => ?_, fun x hx => ?_⟩
  · obtain ⟨i, j, h1, h2, h3, rfl⟩ := t.jj x hx
    have := g.shr i j h1 h2
    rwa [if_pos h3] at this
  · obtain ⟨i, j, h1, h2, h3, rfl⟩ := t.aa x hx
    have := g.shr i j h1 h2
    rwa [if_neg h3] at this
/-- what _law_web_numbers tells -/
def R27 (rows : List D) (r : D) : Prop := (r = .non ∧ ∀ k l m, ¬ Good rows k l m) ∨ ∃ k l m, Good rows k l m ∧ r = .tup [.int k, .int l, .int m]
/-- the decision of the last two lines -/
theorem Two.tell {rows : List D} {J A : List Int} (w : Rw rows) (t : Two rows J A rows.length 0) :
    (((dedup [] ((List.range rows.length).map (deg rows))).length = 1 ∧ 1 ≤ deg rows 0 ∧ deg rows 0 ≤ rows.length - 2 ∧ (dedup [] J).length = 1 ∧ (dedup [] A).length = 1) → ∃ l m, J.head? = some l ∧ A.head? = some m ∧ Good rows (deg rows 0) l m) ∧
    (¬ ((dedup [] ((List.range rows.length).map (deg rows))).length = 1 ∧ 1 ≤ deg rows 0 ∧ deg rows 0 ≤ rows.length - 2 ∧ (dedup [] J).length = 1 ∧ (dedup [] A).length = 1) → ∀ k l m, ¬ Good rows k l m) := by
  have hlo := w.lo
  have h0 : 0 < rows.length := by omega
  constructor
  · rintro ⟨h1, h2, h3, h4, h5⟩
    obtain ⟨l, hl, hJ⟩ := dedup_same.mp h4
    obtain ⟨m, hm, hA⟩ := dedup_same.mp h5
    obtain ⟨u, _, hD⟩ := dedup_same.mp h1
    have hk : ∀ a, a < rows.length → deg rows a = u := fun a ha => hD _ (List.mem_map.mpr ⟨a, List.mem_range.mpr ha, rfl⟩)
    refine ⟨l, m, hl, hm, fun a ha => by rw [hk a ha, hk 0 h0], h2, h3, fun a b hba ha => ?_⟩
    have := t.on a b hba (.inl ha)
    split
    · rw [if_pos (by assumption)] at this
      exact hJ _ this
    · rw [if_neg (by assumption)] at this
      exact hA _ this
  · intro hn k l m g
    have hk := g.reg 0 h0
    obtain ⟨gj, ga⟩ := t.good g
    have h1 := g.lo
    have h2 := g.hi
    obtain ⟨c, hc0, hcv, hce⟩ := some_one w (by rw [hk]; exact h1)
    obtain ⟨c', hc0', hcv', hce'⟩ := some_zero w (by rw [hk]; exact h2)
    have o1 := t.on c 0 hc0 (.inl hcv)
    have o2 := t.on c' 0 hc0' (.inl hcv')
    rw [if_pos hce] at o1
    rw [if_neg (by rw [hce']; decide)] at o2
    have one : ∀ {l : List Int} {u x : Int}, x ∈ l → (∀ y, y ∈ l → y = u) → (dedup [] l).length = 1 := fun {l u x} hx h => dedup_same.mpr (by
      cases l with
      | nil => cases hx
      | cons y l => exact ⟨y, rfl, fun z hz => by rw [h z hz, h y (by simp)]⟩)
    refine hn ⟨one (x := deg rows 0) (u := k) (List.mem_map.mpr ⟨0, List.mem_range.mpr h0, rfl⟩) fun y hy => ?_, by rw [hk]; exact h1, by rw [hk]; exact h2, one o1 gj, one o2 ga⟩
    obtain ⟨a, ha, rfl⟩ := List.mem_map.mp hy
    exact g.reg a (List.mem_range.mp ha)
end
end K84
end
section
set_option maxRecDepth 100000
set_option maxHeartbeats 1000000
/-! K84x: _law_web_numbers, the walk. -/
namespace K84
open DI
section
variable {n d : Nat} {S : Store}
variable {cf : Nat → List D → Store → R D} {s : Sl} {S1 S2 S3 : Store} {a b c : E} {x y z : D} {ds : List D}
theorem wp_par3 {k : Kt} {nn i j l : Nat} (h1 : evalE cf a s S = .ok x S1) (h2 : evalE cf b s S1 = .ok y S2) (h3 : evalE cf c s S2 = .ok z S3) (h : k.nx (((s.set i (some x)).set j (some y)).set l (some z)) S3) : wpF (exec cf nn (.par3 i j l a b c) s S) k := by
  rw [exec, h1]
  show wpF (bindF (evalE cf b s S1) s _) k
  rw [h2]
  show wpF (bindF (evalE cf c s S2) s _) k
  rw [h3]
  exact h
def two (S : Store) (J A : List Int) : Store := S ++ [.lst (J.map .int), .lst (A.map .int)]
theorem two_J {J A : List Int} : cellL (two S J A) S.length = some (J.map .int) := by
  unfold cellL two
  rw [List.getElem?_append_right (Nat.le_refl _)]
  simp
theorem two_A {J A : List Int} : cellL (two S J A) (S.length + 1) = some (A.map .int) := by
  unfold cellL two
  rw [List.getElem?_append_right (by omega)]
  simp
theorem two_setJ {J A : List Int} {i : Int} : (two S J A).set S.length (.lst (J.map .int ++ [.int i])) = two S (J ++ [i]) A := by
  unfold two
  rw [List.set_append_right _ _ (Nat.le_refl _)]
  simp
theorem two_setA {J A : List Int} {i : Int} : (two S J A).set (S.length + 1) (.lst (A.map .int ++ [.int i])) = two S J (A ++ [i]) := by
  unfold two
  rw [List.set_append_right _ _ (by omega)]
  simp
theorem ev_app {p : Nat} {l : List D} (ha : evalE cf a s S = .ok (.lst p) S) (hc : cellL S p = some l) (hb : evalE cf b s S = .ok x S) (hl : l.length < lim) : evalE cf (.me .append a [b]) s S = .ok .non (S.set p (.lst (l ++ [x]))) := by
  rw [evalE, ha, R.bind_ok]
  show (if (cellL S p).isSome then (evalEs cf [b] s S).bind fun vs S2 => me .append p vs S2 else R.no) = _
  rw [hc, if_pos (show (some l).isSome = true from rfl), evalEs, hb, R.bind_ok, evalEs, R.bind_ok, R.bind_ok]
  show opt (cellL S p) (fun ds => if ds.length < lim then R.ok D.non (S.set p (.lst (ds ++ [x]))) else R.no) = _
  rw [hc, opt_some, if_pos hl]
structure Fr27 (rows : List D) (p : Nat) (s : Sl) : Prop where
  len : s.length = 8
  h0 : s[0]? = some (some (.tup rows))
  h1 : s[1]? = some (some (.int (rows.length : Int)))
  h2 : s[2]? = some (some (.fl (((List.range rows.length).map (deg rows)).map .int)))
  h3 : s[3]? = some (some (.lst p))
  h4 : s[4]? = some (some (.lst (p + 1)))
theorem Fr27.set {rows : List D} {p i : Nat} {x : Option D} (f : Fr27 rows p s) (hi : i = 5 ∨ i = 6 ∨ i = 7) : Fr27 rows p (s.set i x) := by
  refine ⟨by rw [List.length_set]; exact f.len, ?_, ?_, ?_, ?_, ?_⟩ <;> (rw [List.getElem?_set_ne (by omega)]; first | exact f.h0 | exact f.h1 | exact f.h2 | exact f.h3 | exact f.h4)
theorem rows_deg {rows : List D} (w : Rw rows) : rows.map sumD = (List.range rows.length).map (deg rows) := by
  apply List.ext_getElem (by simp)
  intro i h1 h2
  have hi : i < rows.length := by simpa using h1
  rw [List.getElem_map, List.getElem_map, List.getElem_range]
  have := w.rowi hi
  rw [List.getElem?_eq_getElem hi] at this
  rw [Option.some.inj this, sumD_row]
theorem turn27 {rows : List D} (w : Rw rows) {a b : Nat} {J A : List Int} {Kx : Kt} (f : Fr27 rows S.length s) (ha : a < rows.length) (hb : b < a) (h6 : s[6]? = some (some (.int (a : Int)))) (h7 : s[7]? = some (some (.int (b : Int)))) (t : Two rows J A a b)
    (next : ∀ J' A', Two rows J' A' a (b + 1) → Kx.nx s (two S J' A')) :
    wpF (execs (callF P n (d + 1)) n [.iff (.cmp .Eq (.ix (.ix (.var 0) (.var 6)) (.var 7)) (.con (.int 1))) [.ex (.me .append (.var 3) [(.call 26 [(.var 0), (.var 6), (.var 7)])])] [.ex (.me .append (.var 4) [(.call 26 [(.var 0), (.var 6), (.var 7)])])]] s (two S J A)) Kx := by
  have hb' : b < rows.length := by omega
  have hlim : ∀ l : List Int, 2 * l.length ≤ a * a + 2 * b → (l.map D.int).length < lim := fun l hl => by
    have := w.hi
    have h64 : a * a ≤ 64 * 64 := Nat.mul_le_mul (by omega) (by omega)
    rw [List.length_map]
    simp only [lim]
    omega
  have hc : evalE (callF P n (d + 1)) (.call 26 [(.var 0), (.var 6), (.var 7)]) s (two S J A) = .ok (.int (shr rows a b)) (two S J A) := ev_call3 (ev_var f.h0) (ev_var h6) (ev_var h7) (s_law_shared w ha hb')
  refine wp_one (wp_iff (S1 := two S J A) (ev_eqi (e_ent w.ok (ev_var f.h0) (ev_var h6) (ev_var h7) ha hb') ev_con) (fun h => ?_) fun h => ?_)
  · refine wp_one (wp_ex (ev_app (ev_var f.h3) two_J hc (hlim _ t.jl)) ?_)
    rw [two_setJ]
    exact next _ _ (t.addJ ha hb (of_decide_eq_true h))
  · refine wp_one (wp_ex (ev_app (ev_var f.h4) two_A hc (hlim _ t.al)) ?_)
    rw [two_setA]
    exact next _ _ (t.addA ha hb (of_decide_eq_false h))
theorem s_web_numbers {rows : List D} (w : Rw rows) : ∃ r, R27 rows r ∧ callF P n (d + 2) 27 [.tup rows] S = .ok r S := by
  have hlo := w.lo
  have hhi := w.hi
  have h0 : 0 < rows.length := by omega
  refine call_rel (f := f27) rfl rfl rfl ?_
  generalize hs : (List.map some [D.tup rows] ++ List.replicate (f27.ns - [D.tup rows].length) none) = s
  have v0 : s[0]? = some (some (.tup rows)) := by rw [← hs]; rfl
  have sl : s.length = 8 := by rw [← hs]; rfl
  clear hs
  refine wp_cons (wp_asg (S1 := S) (ev_len (ev_var v0)) ?_)
  have q0 : (s.set 1 (some (D.int (rows.length : Int))))[0]? = some (some (.tup rows)) := by
    rw [List.getElem?_set_ne (by omega)]; exact v0
  have q1 : (s.set 1 (some (D.int (rows.length : Int))))[1]? = some (some (.int (rows.length : Int))) := List.getElem?_set_self (by omega)
  have ql : (s.set 1 (some (D.int (rows.length : Int)))).length = 8 := by simpa using sl
  generalize s.set 1 (some (D.int (rows.length : Int))) = s1 at q0 q1 ql ⊢
  have e1 : evalE (callF P n (d + 1)) (.cmph false (.bi .sum (.var 5)) (.nm 5) (.seq (.var 0)) [] [5]) s1 S = .ok (.fl (((List.range rows.length).map (deg rows)).map .int)) S := by
    have := ev_list (cf := callF P n (d + 1)) (s := s1) (S1 := S) (tg := .nm 5) (own := [5]) (elt := .bi .sum (.var 5)) (fun r => .int (sumD r)) (it_seq (ev_var q0)) rfl (by simp only [lim]; omega) fun r hr => by
      obtain ⟨i, hi, rfl⟩ := row_mem w hr
      refine ⟨_, rfl, ?_⟩
      rw [sumD_row]
      exact ev_sumt (ev_var (List.getElem?_set_self (by simp only [wipeD, List.length_set]; omega)))
    rw [← rows_deg w, List.map_map]
    exact this
  have e2 : evalE (callF P n (d + 1)) (.lst true []) s1 S = .ok (.lst S.length) (S ++ [.lst []]) := by
    rw [evalE, evalEs, R.bind_ok]
    rfl
  have e3 : evalE (callF P n (d + 1)) (.lst true []) s1 (S ++ [.lst []]) = .ok (.lst (S.length + 1)) (two S [] []) := by
    rw [evalE, evalEs, R.bind_ok]
    show R.ok (D.lst (S ++ [Cell.lst []]).length) ((S ++ [Cell.lst []]) ++ [Cell.lst []]) = _
    rw [List.length_append, List.append_assoc]
    rfl
  refine wp_cons (wp_par3 e1 e2 e3 ?_)
  have f0 : Fr27 rows S.length (((s1.set 2 (some (D.fl (((List.range rows.length).map (deg rows)).map .int)))).set 3 (some (.lst S.length))).set 4 (some (.lst (S.length + 1)))) := by
    refine ⟨by simpa using ql, ?_, ?_, ?_, ?_, ?_⟩
    · rw [List.getElem?_set_ne (by omega), List.getElem?_set_ne (by omega), List.getElem?_set_ne (by omega)]; exact q0
    · rw [List.getElem?_set_ne (by omega), List.getElem?_set_ne (by omega), List.getElem?_set_ne (by omega)]; exact q1
    · rw [List.getElem?_set_ne (by omega), List.getElem?_set_ne (by omega), List.getElem?_set_self (by omega)]
    · rw [List.getElem?_set_ne (by omega), List.getElem?_set_self (by simp only [List.length_set]; omega)]
    · rw [List.getElem?_set_self (by simp only [List.length_set]; omega)]
  generalize ((s1.set 2 (some (D.fl (((List.range rows.length).map (deg rows)).map .int)))).set 3 (some (.lst S.length))).set 4 (some (.lst (S.length + 1))) = s2 at f0 ⊢
  refine wp_cons (wp_for (S1 := two S [] []) (src := .rng 0 rows.length) (ds := ints0 rows.length) (fun i s S' => ∃ J A, Fr27 rows S.length s ∧ Two rows J A i 0 ∧ S' = two S J A) (it_rng_var f0.h1 (by omega)) (fun _ _ _ _ => it_rng_items)
    ⟨[], [], f0, ⟨fun i j h1 h2 => by omega, (fun _ h => nomatch h), (fun _ h => nomatch h), Nat.zero_le _, Nat.zero_le _⟩, rfl⟩ ?_ ?_)
  · intro i dd s3 S3 hi hI
    obtain ⟨J, A, f3, ht, eS⟩ := hI
    obtain ⟨hil, rfl⟩ := ints0_get hi
    refine ⟨s3.set 6 (some (.int (i : Int))), rfl, ?_⟩
    have f5 := f3.set (i := 6) (x := some (.int (i : Int))) (by omega)
    have g5 : (s3.set 6 (some (D.int (i : Int))))[6]? = some (some (.int (i : Int))) := List.getElem?_set_self (by rw [f3.len]; omega)
    generalize s3.set 6 (some (D.int (i : Int))) = s4 at f5 g5 ⊢
    refine wp_one (wp_for (S1 := S3) (src := .rng 0 i) (ds := ints0 i) (fun j s S' => ∃ J A, Fr27 rows S.length s ∧ s[6]? = some (some (.int (i : Int))) ∧ Two rows J A i j ∧ S' = two S J A) (it_rng_var g5 (by omega)) (fun _ _ _ _ => it_rng_items) ⟨J, A, f5, g5, ht, eS⟩ ?_ ?_)
    · intro j dd s6 S6 hj hI
      obtain ⟨J6, A6, f6, g56, ht6, eS6⟩ := hI
      obtain ⟨hjl, rfl⟩ := ints0_get hj
      refine ⟨s6.set 7 (some (.int (j : Int))), rfl, ?_⟩
      have f7 := f6.set (i := 7) (x := some (.int (j : Int))) (by omega)
      have g6 : (s6.set 7 (some (D.int (j : Int))))[7]? = some (some (.int (j : Int))) := List.getElem?_set_self (by rw [f6.len]; omega)
      have g57 : (s6.set 7 (some (D.int (j : Int))))[6]? = some (some (.int (i : Int))) := by rw [List.getElem?_set_ne (by omega)]; exact g56
      generalize s6.set 7 (some (D.int (j : Int))) = s7 at f7 g6 g57 ⊢
      subst eS6
      exact turn27 w f7 hil hjl g57 g6 ht6 fun J' A' t' => ⟨J', A', f7, g57, t', rfl⟩
    · intro s6 S6 hI
      rw [ints0_len] at hI
      obtain ⟨J6, A6, f6, g56, ht6, eS6⟩ := hI
      exact ⟨J6, A6, f6, ht6.next, eS6⟩
  · intro s3 S3 hI
    rw [ints0_len] at hI
    obtain ⟨J, A, f3, t, rfl⟩ := hI
    obtain ⟨tell1, tell2⟩ := t.tell w
    have h64 : rows.length * rows.length ≤ 64 * 64 := Nat.mul_le_mul (by omega) (by omega)
    have l2 := ev_lset (cf := callF P n (d + 1)) (l := (List.range rows.length).map (deg rows)) (ev_var (S := two S J A) f3.h2) rfl (by rw [List.length_map, List.length_range]; omega)
    have l3 := ev_lset (cf := callF P n (d + 1)) (l := J) (ev_var (S := two S J A) f3.h3) two_J (by have := t.jl; omega)
    have l4 := ev_lset (cf := callF P n (d + 1)) (l := A) (ev_var (S := two S J A) f3.h4) two_A (by have := t.al; omega)
    have d0 : (((List.range rows.length).map (deg rows)).map D.int)[0]? = some (.int (deg rows 0)) := by
      rw [List.getElem?_map, List.getElem?_map, List.getElem?_range h0]; rfl
    have i2 : evalE (callF P n (d + 1)) (.ix (.var 2) (.con (.int 0))) s3 (two S J A) = .ok (.int (deg rows 0)) (two S J A) := by
      rw [evalE, ev_var f3.h2, R.bind_ok, ev_con, R.bind_ok]
      exact ix_fl (k := 0) d0
    have eV2 : evalE (callF P n (d + 1)) (.bin .Sub (.var 1) (.con (.int 2))) s3 (two S J A) = .ok (.int ((rows.length : Int) - 2)) (two S J A) := ev_subi (ev_var f3.h1) ev_con
    have echn := ev_chn (cf := callF P n (d + 1)) (a := .con (.int 1)) (b := .ix (.var 2) (.con (.int 0))) (c := .bin .Sub (.var 1) (.con (.int 2))) (s := s3) (S := two S J A) (op := .LtE) (op' := .LtE) ev_con i2 cmp_le (fun _ => eV2) fun _ => cmp_le
    refine wp_cons (wp_iff (S1 := two S J A) (ev_or (ev_nei l2 ev_con) fun _ => ev_or (ev_not echn) fun _ => ev_or (ev_nei l3 ev_con) fun _ => ev_or1 (ev_nei l4 ev_con)) (fun h => ?_) fun h => ?_)
    · refine wp_ret (S1 := two S J A) ev_con ⟨.inl ⟨rfl, tell2 ?_⟩, rfl, _, rfl⟩
      rintro ⟨h1, h2, h3, h4, h5⟩
      rw [h1, h4, h5, decide_eq_true h2, decide_eq_true h3] at h
      simp at h
    · simp only [Bool.or_eq_false_iff, Bool.not_eq_false', Bool.and_eq_true, decide_eq_true_eq] at h
      obtain ⟨h1, ⟨h2, h3⟩, h4, h5⟩ := h
      obtain ⟨l, m, hl, hm, g⟩ := tell1 ⟨by omega, h2, h3, by omega, by omega⟩
      have hJ0 : (J.map D.int)[0]? = some (.int l) := by
        cases J with
        | nil => cases hl
        | cons y J => cases hl; rfl
      have hA0 : (A.map D.int)[0]? = some (.int m) := by
        cases A with
        | nil => cases hm
        | cons y A => cases hm; rfl
      refine wp_nil (wp_ret (x := .tup [.int (deg rows 0), .int l, .int m]) (S1 := two S J A) ?_ ⟨.inr ⟨_, _, _, g, rfl⟩, rfl, _, rfl⟩)
      have i3 := ev_cell (cf := callF P n (d + 1)) (b := .con (.int ((0 : Nat) : Int))) (ev_var (S := two S J A) f3.h3) ev_con two_J hJ0
      have i4 := ev_cell (cf := callF P n (d + 1)) (b := .con (.int ((0 : Nat) : Int))) (ev_var (S := two S J A) f3.h4) ev_con two_A hA0
      rw [evalE, evalEs, i2, R.bind_ok, evalEs]
      erw [i3]
      rw [R.bind_ok, evalEs]
      erw [i4]
      rw [R.bind_ok, evalEs]
      rfl
end
end K84
end
section
set_option maxRecDepth 100000
set_option maxHeartbeats 1000000
/-! K84y: _law_holds. -/
namespace K84
open DI
section
variable {n d : Nat} {S : Store}
variable {cf : Nat → List D → Store → R D} {s : Sl} {S1 S2 S3 : Store} {a b c : E} {x y z : D} {ds : List D}
theorem ev_isnt (h : evalE cf a s S = .ok x S1) : evalE cf (.cmp .IsNot a (.con .non)) s S = .ok (.bl (!decide (x = .non))) S1 := by
  rw [evalE, h, R.bind_ok, ev_con, R.bind_ok]
  rfl
theorem numB_27 {rows : List D} (w : Rw rows) {r : D} (hr : R27 rows r) {p q t : D} : numB rows (.tup [.str wWeb, p, q, t]) = (!decide (r = .non) && decide (D.tup [p, q, t] = r)) := by
  rcases hr with ⟨rfl, hn⟩ | ⟨k, l, m, g, rfl⟩
  · rw [decide_eq_true rfl]
    refine numB_f ?_
    rintro ⟨k, l, m, g, _⟩
    exact hn k l m g
  · have e0 : decide (D.tup [.int k, .int l, .int m] = .non) = false := decide_eq_false (by intro h; cases h)
    rw [e0, Bool.not_false, Bool.true_and]
    by_cases hh : D.tup [p, q, t] = .tup [.int k, .int l, .int m]
    · rw [decide_eq_true hh]
      cases hh
      exact numB_t ⟨k, l, m, g, rfl⟩
    · rw [decide_eq_false hh]
      refine numB_f ?_
      rintro ⟨k', l', m', g', e⟩
      obtain ⟨rfl, rfl, rfl⟩ := good_one w g g'
      simp only [D.tup.injEq, List.cons.injEq] at e
      obtain ⟨_, rfl, rfl, rfl, _⟩ := e
      exact hh rfl
structure Fr29 (rows : List D) (r x : D) (s : Sl) : Prop where
  h0 : s[0]? = some (some (.tup rows))
  h1 : s[1]? = some (some r)
  h2 : s[2]? = some (some x)
  h3 : s[3]? = some (some (.int (rows.length : Int)))
  len : s.length = 8
theorem s_holds_web {rows : List D} {r p q t : D} (w : Rw rows) (hr : R27 rows r) (f : Fr29 rows r (.tup [.str wWeb, p, q, t]) s) (hp : pd p = true) (hq : pd q = true) (ht : pd t = true) :
    evalE (callF P n (d + 3)) (.and [(.cmp .IsNot (.var 1) (.con .non)), (.call 19 [(.sl (.var 2) (some (.con (.int 1))) none), (.var 1)])]) s S = .ok (.bl (numB rows (.tup [.str wWeb, p, q, t]))) S := by
  rw [numB_27 w hr]
  refine ev_and (ev_isnt (ev_var f.h1)) fun h => ev_and1 ?_
  rcases hr with ⟨rfl, hn⟩ | ⟨k, l, m, g, rfl⟩
  · simp at h
  · have e : decide (D.tup [p, q, t] = .tup [.int k, .int l, .int m]) = decide ([p, q, t] = [.int k, .int l, .int m]) := decide_eq_decide.mpr ⟨fun h => by cases h; rfl, fun h => by rw [h]⟩
    rw [e]
    refine ev_call2 (ev_sl1 (ev_var f.h2)) (ev_var f.h1) (s_same (d := d) (fun y hy => ?_) (fun y hy => ?_) (show 3 ≤ 16777216 by decide))
    · simp only [List.mem_cons, List.not_mem_nil, or_false, List.drop_succ_cons, List.drop_zero] at hy
      rcases hy with rfl | rfl | rfl <;> assumption
    · simp only [List.mem_cons, List.not_mem_nil, or_false] at hy
      rcases hy with rfl | rfl | rfl <;> rfl
theorem s_holds_val {rows : List D} {r p q : D} (w : Rw rows) (f : Fr29 rows r (.tup [.str wVal, p, q]) s) (hp : pd p = true) (hq : pd q = true) :
    evalE (callF P n (d + 3)) (.and [(.bi .all (.cmph false (.and [(.call 18 [(.var 5)]), (.chn .LtE .Lt (.con (.int 0)) (.var 5) (.var 3))]) (.nm 5) (.seq (.sl (.var 2) (some (.con (.int 1))) none)) [] [5])), (.cmp .NotEq (.bi .sum (.ix (.var 0) (.ix (.var 2) (.con (.int 1))))) (.bi .sum (.ix (.var 0) (.ix (.var 2) (.con (.int 2))))))]) s S = .ok (.bl (valB2 rows p q)) S := by
  have e0 : valB2 rows p q = ([p, q].all (pointB rows.length) && !decide (deg rows (natOf p) = deg rows (natOf q))) := by
    unfold valB2
    simp
  rw [e0]
  have i1 : evalE (callF P n (d + 3)) (.ix (.var 2) (.con (.int 1))) s S = .ok p S := ev_ixc (k := 1) (ev_var f.h2) rfl
  have i2 : evalE (callF P n (d + 3)) (.ix (.var 2) (.con (.int 2))) s S = .ok q S := ev_ixc (k := 2) (ev_var f.h2) rfl
  refine ev_and (ev_all (pointB rows.length) (it_seq (ev_sl1 (ev_var f.h2))) rfl (show 2 ≤ lim by decide) fun y hy => ⟨_, rfl, ?_⟩) fun h => ev_and1 ?_
  · have hy' : pd y = true := by
      simp only [List.mem_cons, List.not_mem_nil, or_false, List.drop_succ_cons, List.drop_zero] at hy
      rcases hy with rfl | rfl <;> assumption
    have g5 : ((wipeD s [5]).set 5 (some y))[5]? = some (some y) := List.getElem?_set_self (by simp only [wipeD, List.length_set]; rw [f.len]; decide)
    have g3 : ((wipeD s [5]).set 5 (some y))[3]? = some (some (.int (rows.length : Int))) := by
      simp only [wipeD]
      rw [List.getElem?_set_ne (by omega), List.getElem?_set_ne (by omega)]; exact f.h3
    exact e_point hy' (s_is_whole (d := d + 2) hy') (ev_var g5) (ev_var g3)
  · simp only [List.all_cons, List.all_nil, Bool.and_true, Bool.and_eq_true] at h
    obtain ⟨ep, lp⟩ := point_of h.1
    obtain ⟨eq, lq⟩ := point_of h.2
    exact ev_nei (ev_deg w lp (ev_var f.h0) (by rw [← ep]; exact i1)) (ev_deg w lq (ev_var f.h0) (by rw [← eq]; exact i2))
end
end K84
end
section
set_option maxRecDepth 100000
set_option maxHeartbeats 1000000
/-! K84z: _law_holds, joined. -/
namespace K84
open DI
section
variable {n d : Nat} {S : Store}
variable {cf : Nat → List D → Store → R D} {s : Sl} {S1 S2 S3 : Store} {a b c : E} {x y z : D} {ds : List D}
theorem Fr29.set {rows : List D} {r x : D} {i : Nat} {u : Option D} (f : Fr29 rows r x s) (hi : 4 ≤ i) : Fr29 rows r x (s.set i u) := by
  refine ⟨?_, ?_, ?_, ?_, by rw [List.length_set]; exact f.len⟩ <;> (rw [List.getElem?_set_ne (by omega)]; first | exact f.h0 | exact f.h1 | exact f.h2 | exact f.h3)
/-- one turn of the last loop -/
theorem turn29 {rows : List D} {r x : D} {wd : List Nat} {e : Int} {Kx : Kt} (w : Rw rows) (f : Fr29 rows r x s) (hx : pd x = true) (hw : pd (.str wd) = true) (h6 : s[6]? = some (some (.str wd))) (h7 : s[7]? = some (some (.int e)))
    (yes : formB wd 3 x = true → ∀ v, v = .bl (unlikeB rows e (c1 x) (c2 x)) → Kx.rt v S) (no : formB wd 3 x = false → Kx.nx s S) :
    wpF (execs (callF P n (d + 3)) n [.iff (.call 21 [(.var 2), (.var 6), (.con (.int 3))]) [.iff (.or [(.not (.call 28 [(.var 0), (.ix (.var 2) (.con (.int 1))), (.var 7)])), (.not (.call 28 [(.var 0), (.ix (.var 2) (.con (.int 2))), (.var 7)]))]) [.ret (.con (.bl false))] [], .ret (.cmp .NotEq (.call 26 [(.var 0), (.ix (.ix (.var 2) (.con (.int 1))) (.con (.int 0))), (.ix (.ix (.var 2) (.con (.int 1))) (.con (.int 1)))]) (.call 26 [(.var 0), (.ix (.ix (.var 2) (.con (.int 2))) (.con (.int 0))), (.ix (.ix (.var 2) (.con (.int 2))) (.con (.int 1)))]))] []] s S) Kx := by
  refine wp_one (wp_iff (S1 := S) (ev_call3 (ev_var f.h2) (ev_var h6) ev_con (s_has_form (d := d + 2) (m := 3) hx hw (by decide))) (fun h => ?_) fun h => wp_nil (no h))
  obtain ⟨p, q, rfl, hp, hq⟩ := form_len3 h hx
  have i1 : evalE (callF P n (d + 3)) (.ix (.var 2) (.con (.int 1))) s S = .ok p S := ev_ixc (k := 1) (ev_var f.h2) rfl
  have i2 : evalE (callF P n (d + 3)) (.ix (.var 2) (.con (.int 2))) s S = .ok q S := ev_ixc (k := 2) (ev_var f.h2) rfl
  have h1 := ev_call3 (f := 28) (ev_var f.h0) i1 (ev_var h7) (s_law_is_pair (n := n) (d := d + 1) (x := e) w hp)
  have h2 := ev_call3 (f := 28) (ev_var f.h0) i2 (ev_var h7) (s_law_is_pair (n := n) (d := d + 1) (x := e) w hq)
  refine wp_cons (wp_iff (S1 := S) (ev_or (ev_not h1) fun _ => ev_or1 (ev_not h2)) (fun hh => ?_) fun hh => wp_nil ?_)
  · refine wp_ret (S1 := S) ev_con (yes h _ ?_)
    have : unlikeB rows e p q = false := by
      unfold unlikeB
      cases e1 : pairB rows e p <;> cases e2 : pairB rows e q <;> simp [e1, e2] at hh ⊢
    show D.bl false = .bl (unlikeB rows e p q)
    rw [this]
  · simp only [Bool.or_eq_false_iff, Bool.not_eq_false'] at hh
    obtain ⟨p1, p2⟩ := hh
    have e3 : unlikeB rows e p q = !decide (shr rows (natOf (c0 p)) (natOf (c1 p)) = shr rows (natOf (c0 q)) (natOf (c1 q))) := by
      unfold unlikeB
      rw [p1, p2]
      rfl
    obtain ⟨a, b, rfl, ha, hb, _, _⟩ := pairB_eq p1
    obtain ⟨a', b', rfl, ha', hb', _, _⟩ := pairB_eq p2
    simp only [c0, c1, natOf_int] at e3
    have g1 := ev_call3 (f := 26) (ev_var f.h0) (ev_ixc (k := 0) i1 rfl) (ev_ixc (k := 1) i1 rfl) (s_law_shared (n := n) (d := d + 2) w ha hb)
    have g2 := ev_call3 (f := 26) (ev_var f.h0) (ev_ixc (k := 0) i2 rfl) (ev_ixc (k := 1) i2 rfl) (s_law_shared (n := n) (d := d + 2) w ha' hb')
    refine wp_ret (S1 := S) (ev_nei g1 g2) (yes h _ ?_)
    exact congrArg D.bl e3.symm
theorem s_holds {rows : List D} {r x : D} (w : Rw rows) (hr : R27 rows r) (hx : pd x = true) : callF P n (d + 4) 29 [.tup rows, r, x] S = .ok (.bl (holdsB rows x)) S := by
  refine call_pure (f := f29) rfl rfl rfl rfl ?_
  generalize hs : (List.map some [D.tup rows, r, x] ++ List.replicate (f29.ns - [D.tup rows, r, x].length) none) = s
  have v0 : s[0]? = some (some (.tup rows)) := by rw [← hs]; rfl
  have v1 : s[1]? = some (some r) := by rw [← hs]; rfl
  have v2 : s[2]? = some (some x) := by rw [← hs]; rfl
  have sl : s.length = 8 := by rw [← hs]; rfl
  clear hs
  refine wp_cons (wp_asg (S1 := S) (ev_len (ev_var v0)) ?_)
  have f : Fr29 rows r x (s.set 3 (some (.int (rows.length : Int)))) := ⟨by rw [List.getElem?_set_ne (by omega)]; exact v0, by rw [List.getElem?_set_ne (by omega)]; exact v1, by rw [List.getElem?_set_ne (by omega)]; exact v2, List.getElem?_set_self (by omega), by rw [List.length_set]; exact sl⟩
  generalize s.set 3 (some (D.int (rows.length : Int))) = s1 at f ⊢
  have fm : ∀ (w : List Nat) (m : Nat), pd (.str w) = true → 0 < m → evalE (callF P n (d + 3)) (.call 21 [(.var 2), (.con (.str w)), (.con (.int (m : Int)))]) s1 S = .ok (.bl (formB w m x)) S := fun w m h1 h2 => ev_call3 (ev_var f.h2) ev_con ev_con (s_has_form (d := d + 2) hx h1 h2)
  refine wp_cons (wp_iff (S1 := S) (fm wWeb 4 rfl (by decide)) (fun h1 => ?_) fun h1 => wp_nil ?_)
  · have e0 : holdsB rows x = numB rows x := by unfold holdsB; rw [if_pos h1]
    rw [e0]
    obtain ⟨p, q, t, rfl, hp1, hq1, hr1⟩ := form_len4 h1 hx
    exact wp_ret (S1 := S) (s_holds_web w hr f hp1 hq1 hr1) ⟨rfl, [], (List.append_nil S).symm⟩
  refine wp_cons (wp_iff (S1 := S) (fm wWhole 1 rfl (by decide)) (fun h2 => ?_) fun h2 => wp_nil ?_)
  · have e0 : holdsB rows x = wholeB rows := by unfold holdsB; rw [if_neg (by rw [h1]; decide), if_pos h2]
    rw [e0]
    exact wp_ret (S1 := S) (ev_whole w (fun S => ev_var f.h0) (by rw [f.len]; decide) (ev_var f.h3)) ⟨rfl, [], (List.append_nil S).symm⟩
  refine wp_cons (wp_iff (S1 := S) (fm wVal 3 rfl (by decide)) (fun h3 => ?_) fun h3 => wp_nil ?_)
  · have e0 : holdsB rows x = valB2 rows (c1 x) (c2 x) := by unfold holdsB; rw [if_neg (by rw [h1]; decide), if_neg (by rw [h2]; decide), if_pos h3]
    rw [e0]
    obtain ⟨p, q, rfl, hp1, hq1⟩ := form_len3 h3 hx
    exact wp_ret (S1 := S) (s_holds_val w f hp1 hq1) ⟨rfl, [], (List.append_nil S).symm⟩
  have e0 : holdsB rows x = (if formB wJoin 3 x then unlikeB rows 1 (c1 x) (c2 x) else formB wApart 3 x && unlikeB rows 0 (c1 x) (c2 x)) := by unfold holdsB; rw [if_neg (by rw [h1]; decide), if_neg (by rw [h2]; decide), if_neg (by rw [h3]; decide)]
  refine wp_cons (wp_for (S1 := S) (src := .imm true [.tup [.str wJoin, .int 1], .tup [.str wApart, .int 0]]) (ds := [.tup [.str wJoin, .int 1], .tup [.str wApart, .int 0]]) (fun i s S' => S' = S ∧ Fr29 rows r x s ∧ (1 ≤ i → formB wJoin 3 x = false) ∧ (2 ≤ i → formB wApart 3 x = false)) (it_seq (by simp only [evalE, evalEs, R.bind_ok]; rfl)) (fun _ _ _ _ => rfl) ⟨rfl, f, fun h => by omega, fun h => by omega⟩ ?_ ?_)
  · rintro i dd s2 S2 hi ⟨rfl, f2, hj, ha⟩
    match i, hi with
    | 0, hi =>
      cases hi
      refine ⟨(s2.set 6 (some (.str wJoin))).set 7 (some (.int 1)), rfl, ?_⟩
      refine turn29 w ((f2.set (by decide)).set (by decide)) hx (wd := wJoin) (e := 1) rfl (by rw [List.getElem?_set_ne (by decide), List.getElem?_set_self (by rw [f2.len]; decide)]) (List.getElem?_set_self (by rw [List.length_set, f2.len]; decide)) (fun h v hv => ⟨?_, [], (List.append_nil _).symm⟩) fun h => ⟨rfl, (f2.set (by decide)).set (by decide), fun _ => h, fun h => by omega⟩
      rw [hv, e0, if_pos h]
    | 1, hi =>
      cases hi
      refine ⟨(s2.set 6 (some (.str wApart))).set 7 (some (.int 0)), rfl, ?_⟩
      refine turn29 w ((f2.set (by decide)).set (by decide)) hx (wd := wApart) (e := 0) rfl (by rw [List.getElem?_set_ne (by decide), List.getElem?_set_self (by rw [f2.len]; decide)]) (List.getElem?_set_self (by rw [List.length_set, f2.len]; decide)) (fun h v hv => ⟨?_, [], (List.append_nil _).symm⟩) fun h => ⟨rfl, (f2.set (by decide)).set (by decide), fun _ => hj (by decide), fun _ => h⟩
      rw [hv, e0, if_neg (by rw [hj (by decide)]; decide), h, Bool.true_and]
    | i + 2, hi => simp at hi
  · rintro s2 S2 ⟨rfl, f2, hj, ha⟩
    have e1 : holdsB rows x = false := by rw [e0, if_neg (by rw [hj (by decide)]; decide), ha (by decide), Bool.false_and]
    rw [e1]
    show wpF (execs (callF P n (d + 3)) n [.ret (.con (.bl false))] s2 S2) { rt := fun r S1 => r = .bl false ∧ ∃ X, S1 = S2 ++ X }
    exact wp_ret (S1 := S2) ev_con ⟨rfl, [], (List.append_nil _).symm⟩
end
end K84
end
section
set_option maxRecDepth 100000
set_option maxHeartbeats 1000000
/-! K84A1: unlike_pairs. -/
namespace K84
open DI
section
variable {n d : Nat} {S : Store}
variable {cf : Nat → List D → Store → R D} {s : Sl} {S1 S2 S3 : Store} {a b c : E} {x y z : D} {ds : List D}
theorem shr_comm {rows : List D} {a b : Nat} : shr rows a b = shr rows b a := by
  unfold shr
  congr 1
  exact List.map_congr_left fun c _ => Int.mul_comm _ _
/-- the pair as it is told -/
def pr (i j : Nat) : D := .tup [.int (j : Int), .int (i : Int)]
theorem pair_at {rows : List D} {i j : Nat} (w : Rw rows) (hj : j < i) (hi : i < rows.length) : pairB rows (ent rows i j) (pr i j) = true := by
  have hj' : j < rows.length := by omega
  unfold pr pairB
  simp only [pointB, natOf_int]
  rw [w.sym j i hj' hi]
  simp only [Bool.and_eq_true, decide_eq_true_eq, Bool.not_eq_true', decide_eq_false_iff_not]
  refine ⟨⟨⟨⟨?_, ?_⟩, ?_, ?_⟩, ?_⟩, trivial⟩ <;> omega
theorem unlike_at {rows : List D} {i j i' j' : Nat} {x : Int} (w : Rw rows) (hj : j < i) (hi : i < rows.length) (hj' : j' < i') (hi' : i' < rows.length) (h1 : ent rows i j = x) (h2 : ent rows i' j' = x) (h : shr rows i j ≠ shr rows i' j') : unlikeB rows x (pr i j) (pr i' j') = true := by
  unfold unlikeB
  have e1 := pair_at w hj hi
  have e2 := pair_at w hj' hi'
  rw [h1] at e1
  rw [h2] at e2
  rw [e1, e2]
  simp only [pr, c0, c1, natOf_int, Bool.true_and, Bool.not_eq_true', decide_eq_false_iff_not]
  rw [shr_comm (a := j), shr_comm (a := j')]
  exact h
def R11 (rows : List D) (x : Int) (r : D) : Prop := (r = .non ∧ ∀ i j i' j', j < i → i < rows.length → j' < i' → i' < rows.length → ent rows i j = x → ent rows i' j' = x → shr rows i j = shr rows i' j') ∨
  ∃ i j i' j', j < i ∧ i < rows.length ∧ j' < i' ∧ i' < rows.length ∧ r = .tup [pr i j, pr i' j'] ∧ unlikeB rows x (pr i j) (pr i' j') = true
/-- the frame -/
structure Fr11 (rows : List D) (x : Int) (s : Sl) : Prop where
  len : s.length = 6
  h0 : s[0]? = some (some (.tup rows))
  h1 : s[1]? = some (some (.int x))
theorem Fr11.set {rows : List D} {x : Int} {i : Nat} {u : Option D} (f : Fr11 rows x s) (hi : 2 ≤ i) : Fr11 rows x (s.set i u) :=
  ⟨by rw [List.length_set]; exact f.len, by rw [List.getElem?_set_ne (by omega)]; exact f.h0, by rw [List.getElem?_set_ne (by omega)]; exact f.h1⟩
/-- what slot 2 says of the pairs ahead of (a, b) -/
def First (rows : List D) (x : Int) (a b : Nat) (r : D) : Prop := (r = .non ∧ ∀ i j, j < i → (i < a ∨ (i = a ∧ j < b)) → ent rows i j ≠ x) ∨
  ∃ i0 j0, j0 < i0 ∧ i0 < rows.length ∧ ent rows i0 j0 = x ∧ r = .tup [pr i0 j0, .int (shr rows i0 j0)] ∧ ∀ i j, j < i → (i < a ∨ (i = a ∧ j < b)) → ent rows i j = x → shr rows i j = shr rows i0 j0
theorem turn11 {rows : List D} {x : Int} {A B : Nat} {r : D} {Kx : Kt} (w : Rw rows) (f : Fr11 rows x s) (hA : A < rows.length) (hB : B < A) (h2 : s[2]? = some (some r)) (h3 : s[3]? = some (some (.int (A : Int)))) (h4 : s[4]? = some (some (.int (B : Int)))) (t : First rows x A B r)
    (next : ∀ s' r', Fr11 rows x s' → s'[2]? = some (some r') → s'[3]? = some (some (.int (A : Int))) → First rows x A (B + 1) r' → Kx.nx s' S) (stop : ∀ v, R11 rows x v → Kx.rt v S) :
    wpF (execs (callF P n (d + 1)) n [.iff (.cmp .Eq (.ix (.ix (.var 0) (.var 3)) (.var 4)) (.var 1)) [.asg 5 (.call 3 [(.var 0), (.var 3), (.var 4)]), .iff (.cmp .Is (.var 2) (.con .non)) [.asg 2 (.tup [(.tup [(.var 4), (.var 3)]), (.var 5)])] [], .iff (.cmp .NotEq (.var 5) (.ix (.var 2) (.con (.int 1)))) [.ret (.tup [(.ix (.var 2) (.con (.int 0))), (.tup [(.var 4), (.var 3)])])] []] []] s S) Kx := by
  have hB' : B < rows.length := by omega
  refine wp_one (wp_iff (S1 := S) (ev_eqi (e_ent w.ok (ev_var f.h0) (ev_var h3) (ev_var h4) hA hB') (ev_var f.h1)) (fun h => ?_) fun h => wp_nil (next s r f h2 h3 ?_))
  · have he := of_decide_eq_true h
    refine wp_cons (wp_asg (x := .int (shr rows A B)) (S1 := S) (ev_call3 (ev_var f.h0) (ev_var h3) (ev_var h4) (s_common_of w hA hB')) ?_)
    have f' := f.set (i := 5) (u := some (.int (shr rows A B))) (by decide)
    have g2 : (s.set 5 (some (D.int (shr rows A B))))[2]? = some (some r) := by rw [List.getElem?_set_ne (by omega)]; exact h2
    have g3 : (s.set 5 (some (D.int (shr rows A B))))[3]? = some (some (.int (A : Int))) := by rw [List.getElem?_set_ne (by omega)]; exact h3
    have g4 : (s.set 5 (some (D.int (shr rows A B))))[4]? = some (some (.int (B : Int))) := by rw [List.getElem?_set_ne (by omega)]; exact h4
    have g5 : (s.set 5 (some (D.int (shr rows A B))))[5]? = some (some (.int (shr rows A B))) := List.getElem?_set_self (by rw [f.len]; omega)
    generalize s.set 5 (some (D.int (shr rows A B))) = s1 at f' g2 g3 g4 g5 ⊢
    have hp : evalE (callF P n (d + 1)) (.tup [(.var 4), (.var 3)]) s1 S = .ok (pr A B) S := by
      rw [evalE, evalEs, ev_var g4, R.bind_ok, evalEs, ev_var g3, R.bind_ok, evalEs]
      rfl
    have rest : ∀ (s2 : Sl) (i0 j0 : Nat), Fr11 rows x s2 → s2[2]? = some (some (.tup [pr i0 j0, .int (shr rows i0 j0)])) → s2[3]? = some (some (.int (A : Int))) → s2[4]? = some (some (.int (B : Int))) → s2[5]? = some (some (.int (shr rows A B))) → j0 < i0 → i0 < rows.length → ent rows i0 j0 = x →
        (∀ i j, j < i → (i < A ∨ (i = A ∧ j < B)) → ent rows i j = x → shr rows i j = shr rows i0 j0) →
        wpF (execs (callF P n (d + 1)) n [.iff (.cmp .NotEq (.var 5) (.ix (.var 2) (.con (.int 1)))) [.ret (.tup [(.ix (.var 2) (.con (.int 0))), (.tup [(.var 4), (.var 3)])])] []] s2 S) Kx := by
      intro s2 i0 j0 f2 q2 q3 q4 q5 hj0 hi0 he0 hall
      refine wp_one (wp_iff (S1 := S) (ev_nei (ev_var q5) (ev_ixc (k := 1) (ev_var q2) rfl)) (fun h => ?_) fun h => wp_nil (next s2 _ f2 q2 q3 (.inr ⟨i0, j0, hj0, hi0, he0, rfl, fun i j hji hlt hx => ?_⟩)))
      · refine wp_ret (x := .tup [pr i0 j0, pr A B]) (S1 := S) ?_ (stop _ (.inr ⟨i0, j0, A, B, hj0, hi0, hB, hA, rfl, unlike_at w hj0 hi0 hB hA he0 he ?_⟩))
        · have hp2 : evalE (callF P n (d + 1)) (.tup [(.var 4), (.var 3)]) s2 S = .ok (pr A B) S := by
            rw [evalE, evalEs, ev_var q4, R.bind_ok, evalEs, ev_var q3, R.bind_ok, evalEs]
            rfl
          have hp0 : evalE (callF P n (d + 1)) (.ix (.var 2) (.con (.int 0))) s2 S = .ok (pr i0 j0) S := ev_ixc (k := 0) (ev_var q2) rfl
          rw [evalE, evalEs, hp0, R.bind_ok, evalEs, hp2, R.bind_ok, evalEs]
          rfl
        · intro e
          rw [e] at h
          simp at h
      · by_cases hh : i = A ∧ j = B
        · obtain ⟨rfl, rfl⟩ := hh
          simpa using h
        · exact hall i j hji (by omega) hx
    rcases t with ⟨rfl, t⟩ | ⟨i0, j0, hj0, hi0, he0, rfl, t⟩
    · refine wp_cons (wp_iff (S1 := S) (ev_isnon (ev_var g2)) (fun _ => ?_) fun h => by simp at h)
      refine wp_one (wp_asg (x := .tup [pr A B, .int (shr rows A B)]) (S1 := S) ?_ ?_)
      · rw [evalE, evalEs, hp, R.bind_ok, evalEs, ev_var g5, R.bind_ok, evalEs]
        rfl
      · refine rest _ A B (f'.set (by decide)) (List.getElem?_set_self (by rw [f'.len]; omega)) (by rw [List.getElem?_set_ne (by omega)]; exact g3) (by rw [List.getElem?_set_ne (by omega)]; exact g4) (by rw [List.getElem?_set_ne (by omega)]; exact g5) hB hA he fun i j hji hlt hx => ?_
        exact absurd hx (t i j hji hlt)
    · refine wp_cons (wp_iff (S1 := S) (ev_isnon (ev_var g2)) (fun h => by simp at h) fun _ => wp_nil ?_)
      exact rest s1 i0 j0 f' g2 g3 g4 g5 hj0 hi0 he0 t
  · have he := of_decide_eq_false h
    rcases t with ⟨rfl, t⟩ | ⟨i0, j0, hj0, hi0, he0, rfl, t⟩
    · refine .inl ⟨rfl, fun i j hji hlt => ?_⟩
      by_cases hh : i = A ∧ j = B
      · obtain ⟨rfl, rfl⟩ := hh
        exact he
      · exact t i j hji (by omega)
    · refine .inr ⟨i0, j0, hj0, hi0, he0, rfl, fun i j hji hlt hx => ?_⟩
      by_cases hh : i = A ∧ j = B
      · obtain ⟨rfl, rfl⟩ := hh
        exact absurd hx he
      · exact t i j hji (by omega) hx
end
end K84
end
section
set_option maxRecDepth 100000
set_option maxHeartbeats 1000000
/-! K84A2: unlike_pairs, joined. -/
namespace K84
open DI
section
variable {n d : Nat} {S : Store}
variable {cf : Nat → List D → Store → R D} {s : Sl} {S1 S2 S3 : Store} {a b c : E} {x y z : D} {ds : List D}
theorem First.next {rows : List D} {x : Int} {a : Nat} {r : D} (t : First rows x a a r) : First rows x (a + 1) 0 r := by
  rcases t with ⟨e, t⟩ | ⟨i0, j0, h1, h2, h3, e, t⟩
  · exact .inl ⟨e, fun i j hji hlt => t i j hji (by omega)⟩
  · exact .inr ⟨i0, j0, h1, h2, h3, e, fun i j hji hlt hx => t i j hji (by omega) hx⟩
theorem R11_end {rows : List D} {x : Int} {r : D} (t : First rows x rows.length 0 r) : R11 rows x .non := by
  rcases t with ⟨e, t⟩ | ⟨i0, j0, h1, h2, h3, e, t⟩
  · exact .inl ⟨rfl, fun i j i' j' hji hi _ _ hx _ => absurd hx (t i j hji (.inl hi))⟩
  · exact .inl ⟨rfl, fun i j i' j' hji hi hji' hi' hx hx' => by rw [t i j hji (.inl hi) hx, t i' j' hji' (.inl hi') hx']⟩
theorem R11_ref {rows : List D} {x : Int} {r : D} (h : R11 rows x r) (k : Nat) : noRef k r = true := by
  rcases h with ⟨rfl, _⟩ | ⟨i, j, i', j', _, _, _, _, rfl, _⟩
  · rfl
  · rfl
theorem s_unlike_pairs {rows : List D} {x : Int} (w : Rw rows) : ∃ r, R11 rows x r ∧ callF P n (d + 2) 11 [.tup rows, .int x] S = .ok r S := by
  have hhi := w.hi
  refine call_rel (f := f11) rfl rfl rfl ?_
  generalize hs : (List.map some [D.tup rows, .int x] ++ List.replicate (f11.ns - [D.tup rows, .int x].length) none) = s
  have f : Fr11 rows x s := ⟨by rw [← hs]; rfl, by rw [← hs]; rfl, by rw [← hs]; rfl⟩
  clear hs
  refine wp_cons (wp_asg (S1 := S) (x := .non) ev_con ?_)
  have f1 := f.set (i := 2) (u := some .non) (by decide)
  have g2 : (s.set 2 (some D.non))[2]? = some (some .non) := List.getElem?_set_self (by rw [f.len]; decide)
  generalize s.set 2 (some D.non) = s1 at f1 g2 ⊢
  refine wp_cons (wp_for (S1 := S) (src := .rng 0 rows.length) (ds := ints0 rows.length) (fun i s S' => S' = S ∧ Fr11 rows x s ∧ ∃ r, s[2]? = some (some r) ∧ First rows x i 0 r) (it_rng (ev_len (ev_var f1.h0)) (by omega)) (fun _ _ _ _ => it_rng_items)
    ⟨rfl, f1, .non, g2, .inl ⟨rfl, fun i j h1 h2 => by omega⟩⟩ ?_ ?_)
  · rintro i dd s3 S3 hi ⟨rfl, f3, r3, g3, t3⟩
    obtain ⟨hil, rfl⟩ := ints0_get hi
    refine ⟨s3.set 3 (some (.int (i : Int))), rfl, ?_⟩
    have f5 := f3.set (i := 3) (u := some (.int (i : Int))) (by decide)
    have h2 : (s3.set 3 (some (D.int (i : Int))))[2]? = some (some r3) := by rw [List.getElem?_set_ne (by decide)]; exact g3
    have h3 : (s3.set 3 (some (D.int (i : Int))))[3]? = some (some (.int (i : Int))) := List.getElem?_set_self (by rw [f3.len]; decide)
    generalize s3.set 3 (some (D.int (i : Int))) = s4 at f5 h2 h3 ⊢
    refine wp_one (wp_for (S1 := S3) (src := .rng 0 i) (ds := ints0 i) (fun j s S' => S' = S3 ∧ Fr11 rows x s ∧ s[3]? = some (some (.int (i : Int))) ∧ ∃ r, s[2]? = some (some r) ∧ First rows x i j r) (it_rng_var h3 (by omega)) (fun _ _ _ _ => it_rng_items) ⟨rfl, f5, h3, r3, h2, t3⟩ ?_ ?_)
    · rintro j dd s6 S6 hj ⟨rfl, f6, k3, r6, k2, t6⟩
      obtain ⟨hjl, rfl⟩ := ints0_get hj
      refine ⟨s6.set 4 (some (.int (j : Int))), rfl, ?_⟩
      exact turn11 w (f6.set (by decide)) hil hjl (by rw [List.getElem?_set_ne (by decide)]; exact k2) (by rw [List.getElem?_set_ne (by decide)]; exact k3) (List.getElem?_set_self (by rw [f6.len]; decide)) t6 (fun s' r' f' q2 q3 t' => ⟨rfl, f', q3, r', q2, t'⟩) fun v hv => ⟨hv, R11_ref hv _, [], (List.append_nil _).symm⟩
    · rintro s6 S6 hI
      rw [ints0_len] at hI
      obtain ⟨e, f6, k3, r6, k2, t6⟩ := hI
      exact ⟨e, f6, r6, k2, t6.next⟩
  · intro s3 S3 hI
    rw [ints0_len] at hI
    obtain ⟨rfl, f3, r3, g3, t3⟩ := hI
    show wpF (execs (callF P n (d + 1)) n [.ret (.con .non)] s3 S3) { rt := fun r S1 => R11 rows x r ∧ noRef S3.length r = true ∧ ∃ X, S1 = S3 ++ X }
    exact wp_ret (x := .non) (S1 := S3) ev_con ⟨R11_end t3, rfl, [], (List.append_nil _).symm⟩
end
end K84
end
section
set_option maxRecDepth 100000
set_option maxHeartbeats 1000000
/-! K84B: how the calls begin. -/
namespace K84
open DI
theorem p0 : P[0]? = some f0 := rfl
theorem g0 {x0 : D} : Begin f0 [x0] f0.body [some x0] := ⟨rfl, rfl, rfl⟩
theorem p1 : P[1]? = some f1 := rfl
theorem g1 {x0 : D} : Begin f1 [x0] f1.body [some x0, none, none, none, none, none] := ⟨rfl, rfl, rfl⟩
theorem p2 : P[2]? = some f2 := rfl
theorem g2 {x0 : D} : Begin f2 [x0] f2.body [some x0] := ⟨rfl, rfl, rfl⟩
theorem p3 : P[3]? = some f3 := rfl
theorem g3 {x0 x1 x2 : D} : Begin f3 [x0, x1, x2] f3.body [some x0, some x1, some x2, none, none] := ⟨rfl, rfl, rfl⟩
theorem p4 : P[4]? = some f4 := rfl
theorem g4 {x0 : D} : Begin f4 [x0] f4.body [some x0, none, none, none, none, none, none, none] := ⟨rfl, rfl, rfl⟩
theorem p5 : P[5]? = some f5 := rfl
theorem g5 {x0 x1 x2 : D} : Begin f5 [x0, x1, x2] f5.body [some x0, some x1, some x2] := ⟨rfl, rfl, rfl⟩
theorem p6 : P[6]? = some f6 := rfl
theorem g6 {x0 x1 : D} : Begin f6 [x0, x1] f6.body [some x0, some x1] := ⟨rfl, rfl, rfl⟩
theorem p7 : P[7]? = some f7 := rfl
theorem g7 {x0 x1 x2 : D} : Begin f7 [x0, x1, x2] f7.body [some x0, some x1, some x2, none] := ⟨rfl, rfl, rfl⟩
theorem p8 : P[8]? = some f8 := rfl
theorem g8 {x0 x1 x2 x3 : D} : Begin f8 [x0, x1, x2, x3] f8.body [some x0, some x1, some x2, some x3] := ⟨rfl, rfl, rfl⟩
theorem p9 : P[9]? = some f9 := rfl
theorem g9 {x0 x1 x2 : D} : Begin f9 [x0, x1, x2] f9.body [some x0, some x1, some x2] := ⟨rfl, rfl, rfl⟩
theorem p10 : P[10]? = some f10 := rfl
theorem g10 {x0 x1 : D} : Begin f10 [x0, x1] f10.body [some x0, some x1, none, none] := ⟨rfl, rfl, rfl⟩
theorem p11 : P[11]? = some f11 := rfl
theorem g11 {x0 x1 : D} : Begin f11 [x0, x1] f11.body [some x0, some x1, none, none, none, none] := ⟨rfl, rfl, rfl⟩
theorem p12 : P[12]? = some f12 := rfl
theorem g12 {x0 : D} : Begin f12 [x0] f12.body [some x0, none, none, none, none, none, none, none] := ⟨rfl, rfl, rfl⟩
theorem p13 : P[13]? = some f13 := rfl
theorem g13 {x0 : D} : Begin f13 [x0] f13.body [some x0, none, none, none] := ⟨rfl, rfl, rfl⟩
theorem p14 : P[14]? = some f14 := rfl
theorem g14 {x0 x1 : D} : Begin f14 [x0, x1] f14.body [some x0, some x1, none] := ⟨rfl, rfl, rfl⟩
theorem p15 : P[15]? = some f15 := rfl
theorem g15 {x0 : D} : Begin f15 [x0] f15.body [some x0, none] := ⟨rfl, rfl, rfl⟩
theorem p16 : P[16]? = some f16 := rfl
theorem g16 {x0 : D} : Begin f16 [x0] f16.body [some x0] := ⟨rfl, rfl, rfl⟩
theorem p17 : P[17]? = some f17 := rfl
theorem g17 {x0 x1 : D} : Begin f17 [x0, x1] f17.body [some x0, some x1] := ⟨rfl, rfl, rfl⟩
theorem p18 : P[18]? = some f18 := rfl
theorem g18 {x0 : D} : Begin f18 [x0] f18.body [some x0] := ⟨rfl, rfl, rfl⟩
theorem p19 : P[19]? = some f19 := rfl
theorem g19 {x0 x1 : D} : Begin f19 [x0, x1] f19.body [some x0, some x1, none] := ⟨rfl, rfl, rfl⟩
theorem p20 : P[20]? = some f20 := rfl
theorem g20 {x0 x1 x2 : D} : Begin f20 [x0, x1, x2] f20.body [some x0, some x1, some x2, none, none] := ⟨rfl, rfl, rfl⟩
theorem p21 : P[21]? = some f21 := rfl
theorem g21 {x0 x1 x2 : D} : Begin f21 [x0, x1, x2] f21.body [some x0, some x1, some x2] := ⟨rfl, rfl, rfl⟩
theorem p22 : P[22]? = some f22 := rfl
theorem g22 {x0 x1 : D} : Begin f22 [x0, x1] f22.body [some x0, some x1, none, none, none, none, none] := ⟨rfl, rfl, rfl⟩
theorem p23 : P[23]? = some f23 := rfl
theorem g23 {x0 : D} : Begin f23 [x0] f23.body [some x0, none, none, none, none, none, none, none, none, none, none, none] := ⟨rfl, rfl, rfl⟩
theorem p24 : P[24]? = some f24 := rfl
theorem g24 {x0 : D} : Begin f24 [x0] f24.body [some x0, none, none, none, none] := ⟨rfl, rfl, rfl⟩
theorem p25 : P[25]? = some f25 := rfl
theorem g25 {x0 x1 : D} : Begin f25 [x0, x1] f25.body [some x0, some x1] := ⟨rfl, rfl, rfl⟩
theorem p26 : P[26]? = some f26 := rfl
theorem g26 {x0 x1 x2 : D} : Begin f26 [x0, x1, x2] f26.body [some x0, some x1, some x2, none] := ⟨rfl, rfl, rfl⟩
theorem p27 : P[27]? = some f27 := rfl
theorem g27 {x0 : D} : Begin f27 [x0] f27.body [some x0, none, none, none, none, none, none, none] := ⟨rfl, rfl, rfl⟩
theorem p28 : P[28]? = some f28 := rfl
theorem g28 {x0 x1 x2 : D} : Begin f28 [x0, x1, x2] f28.body [some x0, some x1, some x2, none] := ⟨rfl, rfl, rfl⟩
theorem p29 : P[29]? = some f29 := rfl
theorem g29 {x0 x1 x2 : D} : Begin f29 [x0, x1, x2] f29.body [some x0, some x1, some x2, none, none, none, none, none] := ⟨rfl, rfl, rfl⟩
theorem p30 : P[30]? = some f30 := rfl
theorem g30 {x0 x1 : D} : Begin f30 [x0, x1] f30.body [some x0, some x1, none, none, none, none, none, none, none, none, none, none, none] := ⟨rfl, rfl, rfl⟩
theorem p31 : P[31]? = some f31 := rfl
theorem g31 {x0 : D} : Begin f31 [x0] f31.body [some x0, none, none, none, none, none, none, none, none, none] := ⟨rfl, rfl, rfl⟩
end K84
end
section
set_option maxRecDepth 100000
set_option maxHeartbeats 1000000
/-! K84C: draws, bent papers. -/
open DI
local macro_rules | `(tactic| wtm_at "fr") => `(tactic| simp only [List.getElem?_cons_zero, List.getElem?_cons_succ, List.set_cons_zero, List.set_cons_succ, wipe_cons, wipe_nil, setTg_nm, setTg_tp, setSl_cons, setSl_nil, List.cons_append, List.nil_append, List.map_cons, List.map_nil, List.length_cons, List.length_nil, List.length_map, List.length_range, List.reduceReplicate, Nat.reduceAdd, Nat.reduceSub])
local macro_rules | `(tactic| wtm_at "lf") => `(tactic| first
  | exact k_add | exact k_sub | apply k_mul | apply k_fdiv | apply k_mod | apply k_addt | apply k_addl
  | exact k_eqi | exact k_nei | exact k_lt | exact k_le | exact k_gt | exact k_ge | exact k_is | exact k_isnt | exact k_eqb | exact k_neb | apply k_eqp | apply k_nep
  | exact k_lent | exact k_lenl | exact k_lenk | exact k_inti | exact k_intb | exact k_abs | exact k_tupl | exact k_tupt | exact k_all | exact k_any | apply k_suml | apply k_sumt
  | exact n_map | exact n_nil | apply n_cons | with_reducible exact k_sltn | with_reducible exact k_sltf | with_reducible exact k_slts | with_reducible exact k_sltnl | with_reducible exact k_sltfl | with_reducible exact k_sltm | exact k_slt | exact k_sll | exact k_revt | exact k_revl | with_reducible apply k_ixt | with_reducible apply k_ixtl | with_reducible apply k_ixl | with_reducible apply k_ixll
  | exact a_0 | exact a_1 | exact a_2 | exact a_3 | exact a_4 | (apply a_map; wtm_at "ok") | apply a_rng | apply a_getD
  | apply keys_int | exact keys_nil | (apply StT.cellT; with_reducible assumption) | exact l_seq | exact l_seql | exact l_seqk | exact l_itm | exact l_itml | exact l_lst | exact l_zip | exact l_zipl | exact l_enum | exact l_enuml | exact l_map | exact l_zt | exact l_id
  | (apply y_tup; (conv => lhs; whnf); try exact rfl) | (apply y_fl; (conv => lhs; whnf); try exact rfl) | (apply y_kl; (conv => lhs; whnf); try exact rfl) | (apply y_int; (conv => lhs; whnf); try exact rfl) | (apply y_bl; (conv => lhs; whnf); try exact rfl) | (apply y_str; (conv => lhs; whnf); try exact rfl) | exact y_non | (apply y_one; assumption) | (apply y_two; assumption)
  | (apply m_r; first | omega | decide) | (apply m_l; first | omega | decide) | (apply d_s <;> first | omega | decide))
local macro_rules | `(tactic| wtm_at "e1") => `(tactic| first
  | exact z_con | exact z_var ⟨by wtm_at "fr"; exact rfl⟩
  | apply z_call | apply z_bin | apply z_cmp | apply z_ix | apply z_bi | apply z_isi | apply z_and | apply z_or | apply z_and1 | apply z_andc | apply z_or1 | apply z_orc
  | apply z_neg | apply z_not | apply z_chn | apply z_in | apply z_nin | apply z_ite | apply z_lset | apply z_sl | exact z_none | apply z_some | apply z_rev | apply z_tup | apply z_lst | apply z_lof | exact z_nil | apply z_cons
  | apply z_comp | apply z_compf | apply z_seq | with_reducible apply z_rng1l | apply z_rng1 | apply z_rng2 | apply z_zip | apply z_enum | with_reducible apply j_rng1l | apply z_inT | apply j_rng1 | (apply j_tup; wtm_at "ok") | (apply j_fl; wtm_at "ok")
  | (refine isP ?_; first
    | wtm_at "lf"
    | ((first | apply Tgs.mk | apply SetS.mk | apply SetTs.mk | apply App.mk); (try wtm_at "fr"); exact rfl)
    | (apply Small.mk; (try wtm_at "fr"); first | omega | (simp only [List.length_append, List.length_take, List.length_drop, List.length_reverse, List.length_dropLast]; omega))
    | with_reducible assumption
    | (show pd (D.str _) = true; decide) | (show dep _ ≤ 64; exact Nat.zero_le _) | (show flatD _ = true; exact rfl) | (show List.all _ flatD = true; exact rfl)
    | (intro h; (try simp only [decide_eq_true_eq, decide_eq_false_iff_not, List.mem_range, Bool.and_eq_true, Bool.not_eq_true', Bool.not_eq_false', not_true_eq_false, not_false_eq_true] at h))
    | omega | (simp only [List.length_cons, List.length_nil, List.length_map, List.length_range, List.length_append, List.length_take, List.length_drop, List.length_reverse, List.length_dropLast]; omega)))
local macro_rules | `(tactic| wtm_at "ev") => `(tactic| focus (repeat wtm_at "e1"))
local macro_rules | `(tactic| wtm_at "st") => `(tactic| first
  | (apply w_ret; wtm_at "ok") | (apply w_ex; wtm_at "ok") | apply loop_cons | apply loop_nil | (apply w_turn; wtm_at "ok") | (apply w_asg; wtm_at "ok"; wtm_at "ok") | (apply w_iff; wtm_at "ok"; wtm_at "ok"; wtm_at "ok") | (apply w_asgT; wtm_at "ok"; wtm_at "ok"; wtm_at "ok") | apply w_par2 | apply w_par3 | apply w_end | apply w_brk | apply w_cnt | apply w_pass | apply w_retN
  | (refine isP ?_; intro h; (try simp only [decide_eq_true_eq, decide_eq_false_iff_not, Bool.and_eq_true, Bool.not_eq_true', Bool.not_eq_false', not_true_eq_false, not_false_eq_true, reduceCtorEq, Bool.and_false, Bool.false_and, Bool.and_true, Bool.true_and, Bool.or_false, Bool.or_true, Bool.false_or, Bool.true_or, Bool.not_true, Bool.not_false] at h))
  | apply w_retX | apply w_exX | (apply w_raise; wtm_at "ok") | apply w_asgX | (apply w_iffX; wtm_at "ok"; wtm_at "ok") | apply w_asgTX | apply w_par2X | apply w_par3X)
local macro_rules | `(tactic| wtm_at "w1") => `(tactic| first
  | (apply e_pure; wtm_at "ok")
  | (apply e_pures; wtm_at "ok")
  | apply e_call | apply e_nil | apply e_cons | apply e_bin | apply e_cmp | apply e_ix | apply e_bi | apply e_not | apply e_tup | apply e_lst | apply e_new | apply e_newT | apply e_and | apply e_or | apply e_and1 | apply e_or1 | apply e_andc | apply e_orc | apply e_ite | apply i_nil | apply i_one
  | (apply ex_asg; wtm_at "ok"; wtm_at "ok") | (apply sx_pure; wtm_at "ok") | (refine fin_eff (by assumption) ?_ ?_)
  | (refine Exists.intro _ (And.intro rfl (And.intro ?_ ?_)) <;> intro h <;> (try simp only [decide_eq_true_eq, decide_eq_false_iff_not, Bool.and_eq_true, Bool.not_eq_true', Bool.not_eq_false', not_true_eq_false, not_false_eq_true, reduceCtorEq] at h))
  | (refine Exists.intro _ (And.intro rfl ?_))
  | (apply Exists.intro; apply And.intro; wtm_at "ok")
  | (apply And.intro; wtm_at "ok"))
local macro_rules | `(tactic| wtm_at "we") => `(tactic| focus (repeat' wtm_at "w1"))
local macro_rules | `(tactic| wtm_at "ok") => `(tactic| focus ((repeat wtm_at "e1"); done))
local macro_rules | `(tactic| wtm_at "go") => `(tactic| focus (repeat' first | wtm_at "st" | wtm_at "w1"))
namespace K84
open DI
variable {n d : Nat} {S R : Store} {Q : D → Store → Prop} {X : Nat → List (List Nat × D) → Store → Prop}
theorem x_take {m : Int} (hS : StT R S) (h1 : 1 ≤ m) (h2 : m < 1073741824) (hq : ∀ (v : Nat) S1, (v : Int) < m → StT R S1 → Q (.int (v : Int)) S1) : WC (callF P n (d + 1)) 14 [.lst 0, .int m] S Q X := by
  obtain ⟨u, t, a1, a2, rfl⟩ := hS
  obtain ⟨v, u', t', b1, b2, b3, b4, e⟩ := s_take (n := n) (d := d) (S := .lst [.int u, .int t] :: R) (k := 0) (m := m) ⟨u, t, rfl, a1, a2⟩ h1 h2
  have e1 : v = (v.toNat : Int) := by omega
  rw [e1] at e b2
  exact ⟨wpX_ok e (hq v.toNat _ b2 ⟨u', t', b3, b4, rfl⟩)⟩
local macro_rules | `(tactic| wtm_at "w1") => `(tactic| (refine x_take (by assumption) (by omega) (by omega) ?_; intro v S1 hv1 hS1))
/-! papers that may be bent: no truth values -/
mutual
def okB : D → Bool
  | .non => true
  | .int _ => true
  | .str cs => cs.all (· < 1114112)
  | .tup ds => decide (ds.length ≤ 1000) && okBs ds
  | _ => false
def okBs : List D → Bool
  | [] => true
  | d :: ds => okB d && okBs ds
end
mutual
theorem okB_pd : ∀ {x : D}, okB x = true → pd x = true
  | .non, _ => rfl
  | .int _, _ => rfl
  | .str cs, h => by unfold pd; unfold okB at h; exact h
  | .tup ds, h => by
    unfold okB at h
    rw [Bool.and_eq_true] at h
    unfold pd
    exact okBs_pd h.2
  | .bl _, h => by cases h
  | .fl _, h => by cases h
  | .kl _, h => by cases h
  | .lst _, h => by cases h
  | .dct _, h => by cases h
  | .fn _, h => by cases h
theorem okBs_pd : ∀ {ds : List D}, okBs ds = true → pds ds = true
  | [], _ => rfl
  | d :: ds, h => by
    unfold okBs at h
    rw [Bool.and_eq_true] at h
    unfold pds
    rw [okB_pd h.1, okBs_pd h.2]
    rfl
end
theorem okBs_mem {ds : List D} : okBs ds = true ↔ ∀ d, d ∈ ds → okB d = true := by
  induction ds with
  | nil => simp [okBs]
  | cons d ds ih => simp [okBs, ih]
theorem dep_mem {ds : List D} : ∀ {m : Nat}, deps ds ≤ m ↔ ∀ d, d ∈ ds → dep d ≤ m := by
  induction ds with
  | nil => simp [deps]
  | cons d ds ih => intro m; simp [deps, Nat.max_le, ih]
theorem dep_tup {ds : List D} {m : Nat} : dep (.tup ds) ≤ m + 1 ↔ ∀ d, d ∈ ds → dep d ≤ m := by
  have : dep (.tup ds) = deps ds + 1 := by simp only [dep]
  rw [this, Nat.add_le_add_iff_right, dep_mem]
theorem dep_fl {ds : List D} {m : Nat} : dep (.fl ds) ≤ m + 1 ↔ ∀ d, d ∈ ds → dep d ≤ m := by
  have : dep (.fl ds) = deps ds + 1 := by simp only [dep]
  rw [this, Nat.add_le_add_iff_right, dep_mem]
theorem small_le {α : Type} {l : List α} {m : Nat} (h : l.length ≤ m) (hm : m ≤ 16777216) : Small l := ⟨Nat.le_trans h hm⟩
theorem mem_getD {l : List D} {k : Nat} (h : k < l.length) : l.getD k .non ∈ l := by
  rw [List.getD_eq_getElem?_getD, List.getElem?_eq_getElem h]
  exact List.getElem_mem h
theorem all_getD {l : List D} {k : Nat} {G : D → Prop} (h : k < l.length) (hg : ∀ x, x ∈ l → G x) : G (l.getD k .non) := hg _ (mem_getD h)
/-- how deep and plain -/
def Pl (m : Nat) (x : D) : Prop := pd x = true ∧ dep x ≤ m
theorem Pl.tup {m : Nat} {ds : List D} (h : ∀ d, d ∈ ds → Pl m d) : Pl (m + 1) (.tup ds) := ⟨pd_tup.mpr fun d hd => (h d hd).1, dep_tup.mpr fun d hd => (h d hd).2⟩
theorem Pl.fl {m : Nat} {ds : List D} (h : ∀ d, d ∈ ds → Pl m d) : Pl (m + 1) (.fl ds) := ⟨pd_fl.mpr fun d hd => (h d hd).1, dep_fl.mpr fun d hd => (h d hd).2⟩
theorem Pl.mono {m m' : Nat} {x : D} (h : Pl m x) (hm : m ≤ m') : Pl m' x := ⟨h.1, Nat.le_trans h.2 hm⟩
theorem Pl.int {m : Nat} {i : Int} : Pl m (.int i) := ⟨rfl, Nat.zero_le _⟩
theorem Pl.bl {m : Nat} {i : Bool} : Pl m (.bl i) := ⟨rfl, Nat.zero_le _⟩
theorem Pl.non {m : Nat} : Pl m .non := ⟨rfl, Nat.zero_le _⟩
theorem x_bent_tup {m : Nat} {ds : List D} {j : Int} {d : Nat} {S : Store} {Q : D → Store → Prop} (hx : okB (.tup ds) = true) (hd : ∀ d, d ∈ ds → dep d ≤ m) (hS : StT R S) (hq : ∀ v S1, Pl (m + 2) v → StT R S1 → Q v S1)
    (ih : ∀ {x : D} {j : Int} {S : Store} {Q : D → Store → Prop} {X : Nat → List (List Nat × D) → Store → Prop} , okB x = true → dep x ≤ m → StT R S → (∀ v S1, Pl (m + 1) v → StT R S1 → Q v S1) → WC (callF P n (d + 1)) 20 [.lst 0, x, .int j] S Q X) : WC (callF P n (d + 2)) 20 [.lst 0, .tup ds, .int j] S Q X := by
  have hl : ds.length ≤ 1000 := by unfold okB at hx; simp at hx; exact hx.1
  have ho : ∀ d, d ∈ ds → okB d = true := by unfold okB at hx; simp at hx; exact okBs_mem.mp hx.2
  have hp : ∀ d, d ∈ ds → Pl m d := fun d h => ⟨okB_pd (ho d h), hd d h⟩
  have hT : Pl (m + 1) (.tup ds) := .tup hp
  have h8 : ∀ x, x ∈ [D.fl ds, D.tup (ds ++ [D.int 0]), D.tup ds.dropLast, D.tup (ds ++ List.take 1 ds), D.tup [], D.tup ds.reverse, D.non, D.tup [D.tup ds]] → Pl (m + 2) x := by
    intro x hx
    simp only [List.mem_cons, List.not_mem_nil, or_false] at hx
    rcases hx with rfl | rfl | rfl | rfl | rfl | rfl | rfl | rfl
    · exact .mono (.fl hp) (by omega)
    · refine .mono (.tup (m := m) fun d hd => ?_) (by omega)
      rcases List.mem_append.mp hd with h | h
      · exact hp d h
      · rw [List.mem_singleton.mp h]; exact .int
    · exact .mono (.tup fun d hd => hp d (List.dropLast_subset _ hd)) (by omega)
    · refine .mono (.tup (m := m) fun d hd => ?_) (by omega)
      rcases List.mem_append.mp hd with h | h
      · exact hp d h
      · exact hp d (List.mem_of_mem_take h)
    · exact .tup fun d hd => by simp at hd
    · exact .mono (.tup fun d hd => hp d (List.mem_reverse.mp hd)) (by omega)
    · exact .non
    · exact .tup fun d hd => by rw [List.mem_singleton.mp hd]; exact hT
  have key : ∀ (v : Nat) (w : D), v < ds.length → Pl (m + 1) w → Pl (m + 2) (.tup (List.take v ds ++ [w] ++ List.drop (v + 1) ds)) := fun v w hv hw => .tup fun d hd => by
    rcases List.mem_append.mp hd with h | h
    · rcases List.mem_append.mp h with h | h
      · exact .mono (hp d (List.mem_of_mem_take h)) (by omega)
      · rw [List.mem_singleton.mp h]; exact hw
    · exact .mono (hp d (List.mem_of_mem_drop h)) (by omega)
  apply c_eff p20 rfl g20 hS
  wtm_at "go"
  · rename_i v S1 hv hS1
    refine ih (ho _ (mem_getD (k := v) (by omega))) (hd _ (mem_getD (k := v) (by omega))) hS1 fun w S1 hw hS1 => ?_
    wtm_at "go"
    · exact (key v w (by omega) hw).1
    · rename_i S2 hS2
      exact hq _ _ (key v w (by omega) hw) hS2
  · exact (all_getD (by simp only [List.length_cons, List.length_nil]; omega) h8).1
  · exact hq _ _ (all_getD (by simp only [List.length_cons, List.length_nil]; omega) h8) (by assumption)
  · rename_i v S1 hv hS1
    refine ih (ho _ (mem_getD (k := v) (by omega))) (hd _ (mem_getD (k := v) (by omega))) hS1 fun w S1 hw hS1 => ?_
    wtm_at "go"
    · exact (key v w (by omega) hw).1
    · rename_i S2 hS2
      exact hq _ _ (key v w (by omega) hw) hS2
  · exact (all_getD (by simp only [List.length_cons, List.length_nil]; omega) h8).1
  · exact hq _ _ (all_getD (by simp only [List.length_cons, List.length_nil]; omega) h8) (by assumption)
theorem x_bent_oth {m : Nat} {x : D} {j : Int} {d : Nat} {S : Store} {Q : D → Store → Prop} (hx : okB x = true) (hn : isTyB x .tuple = false) (hS : StT R S) (hq : ∀ v S1, Pl (m + 1) v → StT R S1 → Q v S1) : WC (callF P n (d + 2)) 20 [.lst 0, x, .int j] S Q X := by
  have hp := okB_pd hx
  have h8 : ∀ y, y ∈ [D.int 0, D.int 1, D.int 2, D.non, D.tup [x], D.str [115, 116, 117, 99, 107], D.bl true, D.int 3] → Pl (m + 1) y := by
    have hP : Pl m x := ⟨hp, by cases x <;> first | exact Nat.zero_le _ | cases hx | cases hn⟩
    intro y hy
    simp only [List.mem_cons, List.not_mem_nil, or_false] at hy
    rcases hy with rfl | rfl | rfl | rfl | rfl | rfl | rfl | rfl
    · exact .int
    · exact .int
    · exact .int
    · exact .non
    · exact .tup fun d hd => by rw [List.mem_singleton.mp hd]; exact hP
    · exact ⟨by decide, Nat.zero_le _⟩
    · exact .bl
    · exact .int
  cases x with
  | int i =>
    have h4 : ∀ y, y ∈ [D.int (i + 1), D.int (i - 1), D.int (-i), D.bl (decide (i = 1))] → Pl (m + 1) y := by
      intro y hy
      simp only [List.mem_cons, List.not_mem_nil, or_false] at hy
      rcases hy with rfl | rfl | rfl | rfl <;> first | exact .int | exact .bl
    apply c_eff p20 rfl g20 hS
    wtm_at "go"
    · exact (all_getD (by simp only [List.length_cons, List.length_nil]; omega) h4).1
    · exact hq _ _ (all_getD (by simp only [List.length_cons, List.length_nil]; omega) h4) (by assumption)
    · exact (all_getD (by simp only [List.length_cons, List.length_nil]; omega) h8).1
    · exact hq _ _ (all_getD (by simp only [List.length_cons, List.length_nil]; omega) h8) (by assumption)
  | non =>
    apply c_eff p20 rfl g20 hS
    wtm_at "go"
    · exact (all_getD (by simp only [List.length_cons, List.length_nil]; omega) h8).1
    · exact hq _ _ (all_getD (by simp only [List.length_cons, List.length_nil]; omega) h8) (by assumption)
  | str w =>
    apply c_eff p20 rfl g20 hS
    wtm_at "go"
    · exact (all_getD (by simp only [List.length_cons, List.length_nil]; omega) h8).1
    · exact hq _ _ (all_getD (by simp only [List.length_cons, List.length_nil]; omega) h8) (by assumption)
  | tup _ => cases hn
  | _ => cases hx
theorem x_bent : ∀ (m : Nat) {x : D} {j : Int} {d : Nat} {S : Store} {Q : D → Store → Prop} {X : Nat → List (List Nat × D) → Store → Prop} , okB x = true → dep x ≤ m → StT R S → (∀ v S1, Pl (m + 1) v → StT R S1 → Q v S1) → WC (callF P n (d + m + 2)) 20 [.lst 0, x, .int j] S Q X := by
  intro m
  induction m with
  | zero =>
    intro x j d S Q X hx hd hS hq
    refine x_bent_oth (d := d) hx ?_ hS hq
    cases x <;> first | rfl | skip
    simp [dep] at hd
  | succ m ih =>
    intro x j d S Q X hx hd hS hq
    by_cases hn : isTyB x .tuple = true
    · cases x with
      | tup ds => exact x_bent_tup (d := d + m + 1) hx (dep_tup.mp hd) hS hq ih
      | _ => first | cases hn | cases hx
    · exact x_bent_oth (m := m + 1) (d := d + m + 1) hx (by simpa using hn) hS hq
end K84
end
section
set_option maxRecDepth 100000
set_option maxHeartbeats 1000000
/-! K84D: papers made and told. -/
open DI
local macro_rules | `(tactic| wtm_at "fr") => `(tactic| simp only [List.getElem?_cons_zero, List.getElem?_cons_succ, List.set_cons_zero, List.set_cons_succ, wipe_cons, wipe_nil, setTg_nm, setTg_tp, setSl_cons, setSl_nil, List.cons_append, List.nil_append, List.map_cons, List.map_nil, List.length_cons, List.length_nil, List.length_map, List.length_range, List.reduceReplicate, Nat.reduceAdd, Nat.reduceSub])
local macro_rules | `(tactic| wtm_at "lf") => `(tactic| first
  | exact k_add | exact k_sub | apply k_mul | apply k_fdiv | apply k_mod | apply k_addt | apply k_addl
  | exact k_eqi | exact k_nei | exact k_lt | exact k_le | exact k_gt | exact k_ge | exact k_is | exact k_isnt | exact k_eqb | exact k_neb | apply k_eqp | apply k_nep
  | exact k_lent | exact k_lenl | exact k_lenk | exact k_inti | exact k_intb | exact k_abs | exact k_tupl | exact k_tupt | exact k_all | exact k_any | apply k_suml | apply k_sumt
  | exact n_map | exact n_nil | apply n_cons | with_reducible exact k_sltn | with_reducible exact k_sltf | with_reducible exact k_slts | with_reducible exact k_sltnl | with_reducible exact k_sltfl | with_reducible exact k_sltm | exact k_slt | exact k_sll | exact k_revt | exact k_revl | with_reducible apply k_ixt | with_reducible apply k_ixtl | with_reducible apply k_ixl | with_reducible apply k_ixll
  | exact a_0 | exact a_1 | exact a_2 | exact a_3 | exact a_4 | (apply a_map; wtm_at "ok") | apply a_rng | apply a_getD
  | apply keys_int | exact keys_nil | (apply StT.cellT; with_reducible assumption) | exact l_seq | exact l_seql | exact l_seqk | exact l_itm | exact l_itml | exact l_lst | exact l_zip | exact l_zipl | exact l_enum | exact l_enuml | exact l_map | exact l_zt | exact l_id
  | (apply y_tup; (conv => lhs; whnf); try exact rfl) | (apply y_fl; (conv => lhs; whnf); try exact rfl) | (apply y_kl; (conv => lhs; whnf); try exact rfl) | (apply y_int; (conv => lhs; whnf); try exact rfl) | (apply y_bl; (conv => lhs; whnf); try exact rfl) | (apply y_str; (conv => lhs; whnf); try exact rfl) | exact y_non | (apply y_one; assumption) | (apply y_two; assumption)
  | (apply m_r; first | omega | decide) | (apply m_l; first | omega | decide) | (apply d_s <;> first | omega | decide))
local macro_rules | `(tactic| wtm_at "e1") => `(tactic| first
  | exact z_con | exact z_var ⟨by wtm_at "fr"; exact rfl⟩
  | apply z_call | apply z_bin | apply z_cmp | apply z_ix | apply z_bi | apply z_isi | apply z_and | apply z_or | apply z_and1 | apply z_andc | apply z_or1 | apply z_orc
  | apply z_neg | apply z_not | apply z_chn | apply z_in | apply z_nin | apply z_ite | apply z_lset | apply z_sl | exact z_none | apply z_some | apply z_rev | apply z_tup | apply z_lst | apply z_lof | exact z_nil | apply z_cons
  | apply z_comp | apply z_compf | apply z_seq | with_reducible apply z_rng1l | apply z_rng1 | apply z_rng2 | apply z_zip | apply z_enum | with_reducible apply j_rng1l | apply z_inT | apply j_rng1 | (apply j_tup; wtm_at "ok") | (apply j_fl; wtm_at "ok")
  | (refine isP ?_; first
    | wtm_at "lf"
    | ((first | apply Tgs.mk | apply SetS.mk | apply SetTs.mk | apply App.mk); (try wtm_at "fr"); exact rfl)
    | (apply Small.mk; (try wtm_at "fr"); first | omega | (simp only [List.length_append, List.length_take, List.length_drop, List.length_reverse, List.length_dropLast]; omega))
    | with_reducible assumption
    | (show pd (D.str _) = true; decide) | (show dep _ ≤ 64; exact Nat.zero_le _) | (show flatD _ = true; exact rfl) | (show List.all _ flatD = true; exact rfl)
    | (intro h; (try simp only [decide_eq_true_eq, decide_eq_false_iff_not, List.mem_range, Bool.and_eq_true, Bool.not_eq_true', Bool.not_eq_false', not_true_eq_false, not_false_eq_true] at h))
    | omega | (simp only [List.length_cons, List.length_nil, List.length_map, List.length_range, List.length_append, List.length_take, List.length_drop, List.length_reverse, List.length_dropLast]; omega)))
local macro_rules | `(tactic| wtm_at "ev") => `(tactic| focus (repeat wtm_at "e1"))
local macro_rules | `(tactic| wtm_at "st") => `(tactic| first
  | (apply w_ret; wtm_at "ok") | (apply w_ex; wtm_at "ok") | apply loop_cons | apply loop_nil | (apply w_turn; wtm_at "ok") | (apply w_asg; wtm_at "ok"; wtm_at "ok") | (apply w_iff; wtm_at "ok"; wtm_at "ok"; wtm_at "ok") | (apply w_asgT; wtm_at "ok"; wtm_at "ok"; wtm_at "ok") | apply w_par2 | apply w_par3 | apply w_end | apply w_brk | apply w_cnt | apply w_pass | apply w_retN
  | (refine isP ?_; intro h; (try simp only [decide_eq_true_eq, decide_eq_false_iff_not, Bool.and_eq_true, Bool.not_eq_true', Bool.not_eq_false', not_true_eq_false, not_false_eq_true, reduceCtorEq, Bool.and_false, Bool.false_and, Bool.and_true, Bool.true_and, Bool.or_false, Bool.or_true, Bool.false_or, Bool.true_or, Bool.not_true, Bool.not_false] at h))
  | apply w_retX | apply w_exX | (apply w_raise; wtm_at "ok") | apply w_asgX | (apply w_iffX; wtm_at "ok"; wtm_at "ok") | apply w_asgTX | apply w_par2X | apply w_par3X)
local macro_rules | `(tactic| wtm_at "w1") => `(tactic| first
  | (apply e_pure; wtm_at "ok")
  | (apply e_pures; wtm_at "ok")
  | apply e_call | apply e_nil | apply e_cons | apply e_bin | apply e_cmp | apply e_ix | apply e_bi | apply e_not | apply e_tup | apply e_lst | apply e_new | apply e_newT | apply e_and | apply e_or | apply e_and1 | apply e_or1 | apply e_andc | apply e_orc | apply e_ite | apply i_nil | apply i_one
  | (apply ex_asg; wtm_at "ok"; wtm_at "ok") | (apply sx_pure; wtm_at "ok") | (refine fin_eff (by assumption) ?_ ?_)
  | (refine Exists.intro _ (And.intro rfl (And.intro ?_ ?_)) <;> intro h <;> (try simp only [decide_eq_true_eq, decide_eq_false_iff_not, Bool.and_eq_true, Bool.not_eq_true', Bool.not_eq_false', not_true_eq_false, not_false_eq_true, reduceCtorEq] at h))
  | (refine Exists.intro _ (And.intro rfl ?_))
  | (apply Exists.intro; apply And.intro; wtm_at "ok")
  | (apply And.intro; wtm_at "ok"))
local macro_rules | `(tactic| wtm_at "we") => `(tactic| focus (repeat' wtm_at "w1"))
local macro_rules | `(tactic| wtm_at "ok") => `(tactic| focus ((repeat wtm_at "e1"); done))
local macro_rules | `(tactic| wtm_at "go") => `(tactic| focus (repeat' first | wtm_at "st" | wtm_at "w1"))
namespace K84
open DI
variable {n d : Nat} {S R : Store} {Q : D → Store → Prop} {X : Nat → List (List Nat × D) → Store → Prop}
/-! wrappers -/
theorem x_common {T : List D} {a b : Nat} (w : Rw T) (ha : a < T.length) (hb : b < T.length) : Cl (callF P n (d + 1)) S 3 [.tup T, .int (a : Int), .int (b : Int)] (.int (shr T a b)) := ⟨s_common_of w ha hb⟩
theorem x_is_whole {x : D} (hx : pd x = true) : Cl (callF P n (d + 1)) S 18 [x] (.bl (isIntB x)) := ⟨s_is_whole hx⟩
theorem x_check {rows : List D} (w : Rw rows) (h : webB (.tup rows) = true) (hp : pd (.tup rows) = true) : Cl (callF P n (d + 3)) S 2 [.tup rows] .non := ⟨s_check hp h⟩
/-! words that nothing else is -/
def wOdd : List Nat := [97, 32, 119, 111, 114, 100, 32, 116, 104, 97, 116, 32, 110, 111, 116, 104, 105, 110, 103, 32, 101, 108, 115, 101, 32, 105, 115]
mutual
def oddB : D → Bool
  | .str w => decide (w = wOdd)
  | .tup ds => oddBs ds
  | _ => false
def oddBs : List D → Bool
  | [] => false
  | d :: ds => oddB d || oddBs ds
end
theorem oddBs_any {ds : List D} : oddBs ds = ds.any oddB := by
  induction ds with
  | nil => rfl
  | cons d ds ih => simp [oddBs, ih]
theorem pdOdd : pd (.str wOdd) = true := by decide
def strOdd : D → Bool
  | .str w => decide (w = wOdd)
  | _ => false
theorem deq_odd {x : D} (h : okB x = true) : deq x (.str wOdd) = strOdd x := by
  cases x <;> first | rfl | cases h | skip
  exact deq_str
theorem filt_any {ds : List D} {q : D → Bool} : decide ((0 : Int) < (((ds.filter q).map fun a => a).length : Nat)) = ds.any q := by
  induction ds with
  | nil => rfl
  | cons a l ih =>
    rw [List.any_cons, ← ih]
    cases h : q a with
    | true => rw [List.filter_cons_of_pos h]; simp
    | false => rw [List.filter_cons_of_neg (by simp [h])]; simp
structure OddEach (cf : Nat → List D → Store → DI.R D) (S : Store) (ds : List D) : Prop where
  h : ∀ a, a ∈ ds → Cl cf S 15 [a] (.bl (oddB a))
theorem OddEach.at_ {cf : Nat → List D → Store → DI.R D} {ds : List D} {a : D} (e : OddEach cf S ds) (h : a ∈ ds) : Cl cf S 15 [a] (.bl (oddB a)) := e.h a h
local macro_rules | `(tactic| wtm_at "lf") => `(tactic| (apply OddEach.at_ <;> assumption))
theorem x_odd : ∀ (m : Nat) {x : D} {d : Nat} {S : Store}, okB x = true → dep x ≤ m → m ≤ 60 → Cl (callF P n (d + m + 1)) S 15 [x] (.bl (oddB x)) := by
  have e2 := pdOdd
  have e1 := @deq_odd
  unfold wOdd at e2
  have flat : ∀ {x : D} {d : Nat} {S : Store}, okB x = true → isTyB x .tuple = false → Cl (callF P n (d + 1)) S 15 [x] (.bl (oddB x)) := by
    intro x d S hx hn
    have hp := okB_pd hx
    have d1 : dep x ≤ 64 := by cases x <;> first | exact Nat.zero_le _ | cases hx | cases hn
    have e3 := e1 hx
    cases x with
    | tup ds => cases hn
    | fl _ => cases hx
    | kl _ => cases hx
    | lst _ => cases hx
    | dct _ => cases hx
    | fn _ => cases hx
    | bl _ => cases hx
    | str w =>
      apply c_ret p15 rfl g15 rfl
      wtm_at "go"
      · rename_i h
        have h : decide (w = wOdd) = true := e3.symm.trans h
        exact ⟨by simp only [oddB]; rw [h], rfl⟩
      · rename_i h _
        have h : decide (w = wOdd) = false := e3.symm.trans h
        exact ⟨by simp only [oddB]; rw [h], rfl⟩
    | non =>
      apply c_ret p15 rfl g15 rfl
      wtm_at "go"
      · rename_i h
        cases e3.symm.trans h
      · exact ⟨rfl, rfl⟩
    | int i =>
      apply c_ret p15 rfl g15 rfl
      wtm_at "go"
      · rename_i h
        cases e3.symm.trans h
      · exact ⟨rfl, rfl⟩
  intro m
  induction m with
  | zero =>
    intro x d S hx hd hm
    refine flat hx ?_
    cases x <;> first | rfl | skip
    simp [dep] at hd
  | succ m ih =>
    intro x d S hx hd hm
    by_cases hn : isTyB x .tuple = true
    · cases x with
      | tup ds =>
        have hp := okB_pd hx
        have d1 : dep (.tup ds) ≤ 64 := by omega
        have e3 := e1 hx
        have hs : ds.length ≤ 1000 := by unfold okB at hx; simp at hx; exact hx.1
        have ho : ∀ d, d ∈ ds → okB d = true := by unfold okB at hx; simp at hx; exact okBs_mem.mp hx.2
        have he : OddEach (callF P n (d + m + 1)) S ds := ⟨fun a ha => ih (ho a ha) (dep_tup.mp hd a ha) (by omega)⟩
        apply c_ret p15 rfl g15 rfl
        wtm_at "go"
        · rename_i h
          cases e3.symm.trans h
        · refine ⟨?_, rfl⟩
          simp only [oddB, oddBs_any, Bool.true_and]
          rw [← filt_any]
      | _ => first | cases hn | cases hx
    · exact flat (d := d + m + 1) hx (by simpa using hn)
theorem x_odd_bl {b : Bool} : Cl (callF P n (d + 1)) S 15 [.bl b] (.bl false) := by
  have e2 := pdOdd
  unfold wOdd at e2
  have hp : pd (.bl b) = true := rfl
  have d1 : dep (.bl b) ≤ 64 := Nat.zero_le _
  apply c_ret p15 rfl g15 rfl
  wtm_at "go"
  · rename_i h
    cases h
  · exact ⟨rfl, rfl⟩
theorem x_honest {r : D} {m : Nat} (h : okB r = true) (ho : oddB r = false) (hd : dep r ≤ m) (hm : m ≤ 60) : Cl (callF P n (d + m + 2)) S 16 [r] r := by
  have := x_odd (n := n) (d := d) (S := S) m h hd hm
  rw [ho] at this
  apply c_ret p16 rfl g16 (pd_ref _ _ (okB_pd h))
  wtm_at "go"
  exact ⟨rfl, rfl⟩
theorem x_honest_bl {b : Bool} : Cl (callF P n (d + 2)) S 16 [.bl b] (.bl b) := by
  have := @x_odd_bl n d S b
  apply c_ret p16 rfl g16 rfl
  wtm_at "go"
  exact ⟨rfl, rfl⟩
end K84
end
section
set_option maxRecDepth 100000
set_option maxHeartbeats 1000000
/-! K84E: the paper that is made. -/
open DI
local macro_rules | `(tactic| wtm_at "fr") => `(tactic| simp only [List.getElem?_cons_zero, List.getElem?_cons_succ, List.set_cons_zero, List.set_cons_succ, wipe_cons, wipe_nil, setTg_nm, setTg_tp, setSl_cons, setSl_nil, List.cons_append, List.nil_append, List.map_cons, List.map_nil, List.length_cons, List.length_nil, List.length_map, List.length_range, List.reduceReplicate, Nat.reduceAdd, Nat.reduceSub])
local macro_rules | `(tactic| wtm_at "lf") => `(tactic| first
  | exact k_add | exact k_sub | apply k_mul | apply k_fdiv | apply k_mod | apply k_addt | apply k_addl
  | exact k_eqi | exact k_nei | exact k_lt | exact k_le | exact k_gt | exact k_ge | exact k_is | exact k_isnt | exact k_eqb | exact k_neb | apply k_eqp | apply k_nep
  | exact k_lent | exact k_lenl | exact k_lenk | exact k_inti | exact k_intb | exact k_abs | exact k_tupl | exact k_tupt | exact k_all | exact k_any | apply k_suml | apply k_sumt
  | exact n_map | exact n_nil | apply n_cons | with_reducible exact k_sltn | with_reducible exact k_sltf | with_reducible exact k_slts | with_reducible exact k_sltnl | with_reducible exact k_sltfl | with_reducible exact k_sltm | exact k_slt | exact k_sll | exact k_revt | exact k_revl | with_reducible apply k_ixt | with_reducible apply k_ixtl | with_reducible apply k_ixl | with_reducible apply k_ixll
  | exact a_0 | exact a_1 | exact a_2 | exact a_3 | exact a_4 | (apply a_map; wtm_at "ok") | apply a_rng | apply a_getD
  | apply keys_int | exact keys_nil | (apply StT.cellT; with_reducible assumption) | exact l_seq | exact l_seql | exact l_seqk | exact l_itm | exact l_itml | exact l_lst | exact l_zip | exact l_zipl | exact l_enum | exact l_enuml | exact l_map | exact l_zt | exact l_id
  | (apply y_tup; (conv => lhs; whnf); try exact rfl) | (apply y_fl; (conv => lhs; whnf); try exact rfl) | (apply y_kl; (conv => lhs; whnf); try exact rfl) | (apply y_int; (conv => lhs; whnf); try exact rfl) | (apply y_bl; (conv => lhs; whnf); try exact rfl) | (apply y_str; (conv => lhs; whnf); try exact rfl) | exact y_non | (apply y_one; assumption) | (apply y_two; assumption)
  | (apply m_r; first | omega | decide) | (apply m_l; first | omega | decide) | (apply d_s <;> first | omega | decide))
local macro_rules | `(tactic| wtm_at "e1") => `(tactic| first
  | exact z_con | exact z_var ⟨by wtm_at "fr"; exact rfl⟩
  | apply z_call | apply z_bin | apply z_cmp | apply z_ix | apply z_bi | apply z_isi | apply z_and | apply z_or | apply z_and1 | apply z_andc | apply z_or1 | apply z_orc
  | apply z_neg | apply z_not | apply z_chn | apply z_in | apply z_nin | apply z_ite | apply z_lset | apply z_sl | exact z_none | apply z_some | apply z_rev | apply z_tup | apply z_lst | apply z_lof | exact z_nil | apply z_cons
  | apply z_comp | apply z_compf | apply z_seq | with_reducible apply z_rng1l | apply z_rng1 | apply z_rng2 | apply z_zip | apply z_enum | with_reducible apply j_rng1l | apply z_inT | apply j_rng1 | (apply j_tup; wtm_at "ok") | (apply j_fl; wtm_at "ok")
  | (refine isP ?_; first
    | wtm_at "lf"
    | ((first | apply Tgs.mk | apply SetS.mk | apply SetTs.mk | apply App.mk); (try wtm_at "fr"); exact rfl)
    | (apply Small.mk; (try wtm_at "fr"); first | omega | (simp only [List.length_append, List.length_take, List.length_drop, List.length_reverse, List.length_dropLast]; omega))
    | with_reducible assumption
    | (show pd (D.str _) = true; decide) | (show dep _ ≤ 64; exact Nat.zero_le _) | (show flatD _ = true; exact rfl) | (show List.all _ flatD = true; exact rfl)
    | (intro h; (try simp only [decide_eq_true_eq, decide_eq_false_iff_not, List.mem_range, Bool.and_eq_true, Bool.not_eq_true', Bool.not_eq_false', not_true_eq_false, not_false_eq_true] at h))
    | omega | (simp only [List.length_cons, List.length_nil, List.length_map, List.length_range, List.length_append, List.length_take, List.length_drop, List.length_reverse, List.length_dropLast]; omega)))
local macro_rules | `(tactic| wtm_at "ev") => `(tactic| focus (repeat wtm_at "e1"))
local macro_rules | `(tactic| wtm_at "st") => `(tactic| first
  | (apply w_ret; wtm_at "ok") | (apply w_ex; wtm_at "ok") | apply loop_cons | apply loop_nil | (apply w_turn; wtm_at "ok") | (apply w_asg; wtm_at "ok"; wtm_at "ok") | (apply w_iff; wtm_at "ok"; wtm_at "ok"; wtm_at "ok") | (apply w_asgT; wtm_at "ok"; wtm_at "ok"; wtm_at "ok") | apply w_par2 | apply w_par3 | apply w_end | apply w_brk | apply w_cnt | apply w_pass | apply w_retN
  | (refine isP ?_; intro h; (try simp only [decide_eq_true_eq, decide_eq_false_iff_not, Bool.and_eq_true, Bool.not_eq_true', Bool.not_eq_false', not_true_eq_false, not_false_eq_true, reduceCtorEq, Bool.and_false, Bool.false_and, Bool.and_true, Bool.true_and, Bool.or_false, Bool.or_true, Bool.false_or, Bool.true_or, Bool.not_true, Bool.not_false] at h))
  | apply w_retX | apply w_exX | (apply w_raise; wtm_at "ok") | apply w_asgX | (apply w_iffX; wtm_at "ok"; wtm_at "ok") | apply w_asgTX | apply w_par2X | apply w_par3X)
local macro_rules | `(tactic| wtm_at "w1") => `(tactic| first
  | (apply e_pure; wtm_at "ok")
  | (apply e_pures; wtm_at "ok")
  | apply e_call | apply e_nil | apply e_cons | apply e_bin | apply e_cmp | apply e_ix | apply e_bi | apply e_not | apply e_tup | apply e_lst | apply e_new | apply e_newT | apply e_and | apply e_or | apply e_and1 | apply e_or1 | apply e_andc | apply e_orc | apply e_ite | apply i_nil | apply i_one
  | (apply ex_asg; wtm_at "ok"; wtm_at "ok") | (apply sx_pure; wtm_at "ok") | (refine fin_eff (by assumption) ?_ ?_)
  | (refine Exists.intro _ (And.intro rfl (And.intro ?_ ?_)) <;> intro h <;> (try simp only [decide_eq_true_eq, decide_eq_false_iff_not, Bool.and_eq_true, Bool.not_eq_true', Bool.not_eq_false', not_true_eq_false, not_false_eq_true, reduceCtorEq] at h))
  | (refine Exists.intro _ (And.intro rfl ?_))
  | (apply Exists.intro; apply And.intro; wtm_at "ok")
  | (apply And.intro; wtm_at "ok"))
local macro_rules | `(tactic| wtm_at "we") => `(tactic| focus (repeat' wtm_at "w1"))
local macro_rules | `(tactic| wtm_at "ok") => `(tactic| focus ((repeat wtm_at "e1"); done))
local macro_rules | `(tactic| wtm_at "go") => `(tactic| focus (repeat' first | wtm_at "st" | wtm_at "w1"))
namespace K84
open DI
variable {n d : Nat} {S : Store}
theorem sum_const {f : Nat → Int} {k : Int} : ∀ {l : List Nat}, (∀ x, x ∈ l → f x = k) → (l.map f).sum = l.length * k
  | [], _ => by simp
  | a :: l, h => by
    rw [List.map_cons, List.sum_cons, h a List.mem_cons_self, sum_const fun x hx => h x (List.mem_cons_of_mem _ hx), List.length_cons]
    have : ((l.length + 1 : Nat) : Int) * k = k + l.length * k := by
      rw [Int.natCast_add, Int.add_mul]; omega
    exact this.symm
theorem sum_bits {f : Nat → Int} : ∀ {l : List Nat}, (∀ x, x ∈ l → f x = 0 ∨ f x = 1) → 0 ≤ (l.map f).sum ∧ (l.map f).sum ≤ l.length
  | [], _ => by simp
  | a :: l, h => by
    have := sum_bits fun x hx => h x (List.mem_cons_of_mem _ hx)
    have := h a List.mem_cons_self
    rw [List.map_cons, List.sum_cons, List.length_cons]
    omega
theorem deg_bnd {rows : List D} (w : Rw rows) : 0 ≤ deg rows 0 ∧ deg rows 0 ≤ rows.length - 1 := by
  have h0 : 0 < rows.length := by have := w.lo; omega
  obtain ⟨u, hu⟩ : ∃ u, rows.length = u + 1 := ⟨rows.length - 1, by omega⟩
  unfold deg
  rw [hu, List.range_succ_eq_map, List.map_cons, List.sum_cons, w.dia 0 h0, List.map_map]
  have := sum_bits (f := (fun c => ent rows 0 c) ∘ Nat.succ) (l := List.range u) fun x hx => w.bit h0 (by have := List.mem_range.mp hx; omega)
  rw [List.length_range] at this
  omega
theorem tot_deg {rows : List D} (w : Rw rows) : tot rows = ((List.range rows.length).map (deg rows)).sum := by
  unfold tot
  rw [rows_deg w]
/-- a web that is not whole, with equal degrees, whose pairs are alike, has numbers -/
theorem good_of {rows : List D} (w : Rw rows) (hw : wholeB rows = false) (hd : ∀ a, a < rows.length → deg rows a = deg rows 0)
    (h1 : ∀ i j i' j', j < i → i < rows.length → j' < i' → i' < rows.length → ent rows i j = 1 → ent rows i' j' = 1 → shr rows i j = shr rows i' j')
    (h0 : ∀ i j i' j', j < i → i < rows.length → j' < i' → i' < rows.length → ent rows i j = 0 → ent rows i' j' = 0 → shr rows i j = shr rows i' j') : ∃ k l m, Good rows k l m := by
  have hlo := w.lo
  have hb := deg_bnd w
  have ht : tot rows = rows.length * deg rows 0 := by
    rw [tot_deg w, sum_const (k := deg rows 0) fun x hx => hd x (List.mem_range.mp hx), List.length_range]
  unfold wholeB at hw
  simp only [Bool.or_eq_false_iff, decide_eq_false_iff_not] at hw
  have k1 : deg rows 0 ≠ 0 := fun e => hw.1 (by rw [ht, e]; simp)
  have k2 : deg rows 0 ≠ rows.length - 1 := fun e => hw.2 (by rw [ht, e])
  obtain ⟨c, hc, hcl, he⟩ := some_one w (by omega)
  obtain ⟨c', hc', hcl', he'⟩ := some_zero w (by omega)
  refine ⟨deg rows 0, shr rows c 0, shr rows c' 0, hd, by omega, by omega, fun a b hba ha => ?_⟩
  rcases w.bit (a := a) (b := b) ha (by omega) with e | e
  · rw [e, if_neg (by decide)]
    exact h0 a b c' 0 hba ha hc' hcl' e he'
  · rw [e, if_pos rfl]
    exact h1 a b c 0 hba ha hc hcl e he
/-- what is told of the paper that is made -/
structure PapB (rows : List D) (r : D) : Prop where
  tup : ∃ w l, r = .tup (.str w :: l) ∧ (w = wWeb ↔ ∃ k l m, Good rows k l m)
  holds : holdsB rows r = true
  ok : okB r = true
  dp : dep r ≤ 2
  odd : oddB r = false
theorem papB_web {rows : List D} {k l m : Int} (g : Good rows k l m) : PapB rows (.tup [.str wWeb, .int k, .int l, .int m]) where
  tup := ⟨wWeb, _, rfl, fun _ => ⟨k, l, m, g⟩, fun _ => rfl⟩
  holds := by
    unfold holdsB
    have : formB wWeb 4 (.tup [.str wWeb, .int k, .int l, .int m]) = true := rfl
    rw [this, if_pos rfl]
    exact numB_t ⟨k, l, m, g, rfl⟩
  ok := rfl
  dp := by simp [dep, deps]
  odd := rfl
theorem papB_whole {rows : List D} (ng : ∀ k l m, ¬ Good rows k l m) (h : wholeB rows = true) : PapB rows (.tup [.str wWhole]) where
  tup := ⟨wWhole, _, rfl, fun e => absurd e (by decide), fun ⟨k, l, m, g⟩ => absurd g (ng k l m)⟩
  holds := by
    unfold holdsB
    have e1 : formB wWeb 4 (.tup [.str wWhole]) = false := by decide
    have e2 : formB wWhole 1 (.tup [.str wWhole]) = true := by decide
    rw [e1, e2]
    exact h
  ok := by decide
  dp := by decide
  odd := by decide
theorem papB_val {rows : List D} {i : Nat} (w : Rw rows) (ng : ∀ k l m, ¬ Good rows k l m) (hi : i < rows.length) (h : deg rows i ≠ deg rows 0) : PapB rows (.tup [.str wVal, .int 0, .int (i : Int)]) where
  tup := ⟨wVal, _, rfl, fun e => absurd e (by decide), fun ⟨k, l, m, g⟩ => absurd g (ng k l m)⟩
  holds := by
    unfold holdsB
    have e1 : formB wWeb 4 (.tup [.str wVal, .int 0, .int (i : Int)]) = false := by rfl
    have e2 : formB wWhole 1 (.tup [.str wVal, .int 0, .int (i : Int)]) = false := by rfl
    have e3 : formB wVal 3 (.tup [.str wVal, .int 0, .int (i : Int)]) = true := by rfl
    rw [e1, e2, e3]
    simp only [Bool.false_eq_true, if_false, if_true, valB2, c1, c2, pointB, natOf]
    have := w.lo
    simp
    exact ⟨⟨by omega, hi⟩, decide_eq_false fun e => h e.symm⟩
  ok := rfl
  dp := by simp [dep, deps]
  odd := rfl
theorem papB_pair {rows : List D} {x : Int} {wd : List Nat} {i j i' j' : Nat} (ng : ∀ k l m, ¬ Good rows k l m) (hw : (wd = wJoin ∧ x = 1) ∨ (wd = wApart ∧ x = 0)) (h : unlikeB rows x (pr i j) (pr i' j') = true) : PapB rows (.tup [.str wd, pr i j, pr i' j']) where
  tup := ⟨wd, _, rfl, fun e => absurd e (by rcases hw with ⟨rfl, _⟩ | ⟨rfl, _⟩ <;> decide), fun ⟨k, l, m, g⟩ => absurd g (ng k l m)⟩
  holds := by
    unfold holdsB
    rcases hw with ⟨rfl, rfl⟩ | ⟨rfl, rfl⟩
    · have e1 : formB wWeb 4 (.tup [.str wJoin, pr i j, pr i' j']) = false := by rfl
      have e2 : formB wWhole 1 (.tup [.str wJoin, pr i j, pr i' j']) = false := by rfl
      have e3 : formB wVal 3 (.tup [.str wJoin, pr i j, pr i' j']) = false := by rfl
      have e4 : formB wJoin 3 (.tup [.str wJoin, pr i j, pr i' j']) = true := by rfl
      rw [e1, e2, e3, e4]
      exact h
    · have e1 : formB wWeb 4 (.tup [.str wApart, pr i j, pr i' j']) = false := by rfl
      have e2 : formB wWhole 1 (.tup [.str wApart, pr i j, pr i' j']) = false := by rfl
      have e3 : formB wVal 3 (.tup [.str wApart, pr i j, pr i' j']) = false := by rfl
      have e4 : formB wJoin 3 (.tup [.str wApart, pr i j, pr i' j']) = false := by rfl
      have e5 : formB wApart 3 (.tup [.str wApart, pr i j, pr i' j']) = true := by rfl
      rw [e1, e2, e3, e4, e5]
      exact h
  ok := by rcases hw with ⟨rfl, _⟩ | ⟨rfl, _⟩ <;> rfl
  dp := by simp [dep, deps, pr]
  odd := by rcases hw with ⟨rfl, _⟩ | ⟨rfl, _⟩ <;> rfl
/-! the rows, told by their places -/
def rowD (rows : List D) (a : Nat) : D := .tup ((List.range rows.length).map fun c => .int (ent rows a c))
theorem Rw.rows {rows : List D} (w : Rw rows) : rows = (List.range rows.length).map (rowD rows) := by
  apply List.ext_getElem?
  intro a
  by_cases ha : a < rows.length
  · rw [w.row ha, List.getElem?_map, List.getElem?_range ha]; rfl
  · rw [List.getElem?_eq_none (by omega), List.getElem?_eq_none (by simpa using ha)]
theorem Rw.mp {rows : List D} (w : Rw rows) : Mp rows (List.range rows.length) (rowD rows) := ⟨w.rows⟩
theorem Rw.mpe {rows : List D} (w : Rw rows) : Mp (rows.zipIdx.map fun p => D.tup [D.int (p.2 : Nat), p.1]) (List.range rows.length) (fun a => .tup [.int (a : Int), rowD rows a]) := ⟨by
  apply List.ext_getElem?
  intro a
  rw [List.getElem?_map, List.getElem?_map, List.getElem?_zipIdx]
  by_cases ha : a < rows.length
  · rw [w.row ha, List.getElem?_range ha]
    simp [rowD]
  · rw [List.getElem?_eq_none (by omega), List.getElem?_eq_none (by simpa using ha)]; rfl⟩
theorem Rw.at_ {rows : List D} (w : Rw rows) {a : Nat} (ha : a < rows.length) : At rows a (rowD rows a) := ⟨w.row ha⟩
theorem Rw.at0 {rows : List D} (w : Rw rows) : At rows 0 (rowD rows 0) := ⟨w.row (by have := w.lo; omega)⟩
theorem rowD_sum {rows : List D} {a : Nat} : LBi S .sum (rowD rows a) (.int (deg rows a)) := k_sumt n_map
theorem Rw.sm {T : List D} (w : Rw T) : Small T := ⟨by have := w.hi; omega⟩
local macro_rules | `(tactic| wtm_at "lf") => `(tactic| first | (apply Rw.mp; assumption) | (apply Rw.mpe; assumption) | (apply Rw.at0; assumption) | (apply Rw.at_; assumption; omega) | (apply Rw.sm; assumption) | exact rowD_sum)
theorem x_web_paper {rows : List D} (w : Rw rows) (hr : webB (.tup rows) = true) (hp : pd (.tup rows) = true) : ∃ r, PapB rows r ∧ Cl (callF P n (d + 4)) S 12 [.tup rows] r := by
  have c2 := x_check (n := n) (d := d) (S := S) w hr hp
  obtain ⟨r4, h4, c4⟩ := s_numbers_of (n := n) (d := d + 1) (S := S) w
  have c4 : Cl (callF P n (d + 3)) S 4 [.tup rows] r4 := ⟨c4⟩
  have hl := w.hi
  have e7 : ([D.int 0, D.int (rows.length * (rows.length - 1))].any fun x => eqF x (.int (((List.range rows.length).map (deg rows)).sum))) = wholeB rows := by
    rw [← tot_deg w]
    simp only [List.any_cons, List.any_nil, Bool.or_false, eqF, wholeB]
    rw [Bool.eq_iff_iff]
    simp
    constructor <;> rintro (h | h) <;> simp [h]
  obtain ⟨r1, h1, c1⟩ := s_unlike_pairs (n := n) (d := d + 1) (S := S) (x := 1) w
  obtain ⟨r0, h0, c0⟩ := s_unlike_pairs (n := n) (d := d + 1) (S := S) (x := 0) w
  have c1 : Cl (callF P n (d + 3)) S 11 [.tup rows, .int 1] r1 := ⟨c1⟩
  have c0 : Cl (callF P n (d + 3)) S 11 [.tup rows, .int 0] r0 := ⟨c0⟩
  apply c_rel p12 rfl g12
  wtm_at "st"
  wtm_at "st"
  rcases h4 with ⟨rfl, ng⟩ | ⟨k, l, m, g, rfl⟩
  · wtm_at "go"
    · rename_i h
      exact ⟨⟨[], by simp⟩, rfl, papB_whole ng (e7.symm.trans h)⟩
    · rename_i h
      have hm := mem_getD (l := List.map (fun (h : Nat) => D.int (h : Int)) (List.filter (fun h => !decide (deg rows h = deg rows 0)) (List.range rows.length))) (k := 0) (by omega)
      obtain ⟨i, hi, e⟩ := List.mem_map.mp hm
      rw [← e]
      simp only [List.mem_filter, List.mem_range, Bool.not_eq_true', decide_eq_false_iff_not] at hi
      exact ⟨⟨[], by simp⟩, rfl, papB_val w ng hi.1 hi.2⟩
    · rename_i hw ho
      have hd : ∀ a, a < rows.length → deg rows a = deg rows 0 := fun a ha => Decidable.byContradiction fun hne => by
        have : 0 < (List.map (fun (h : Nat) => D.int (h : Int)) (List.filter (fun h => !decide (deg rows h = deg rows 0)) (List.range rows.length))).length := List.length_pos_of_mem (a := D.int (a : Int)) (List.mem_map.mpr ⟨a, by simp [ha, hne], rfl⟩)
        omega
      apply w_loop
      · wtm_at "ok"
      rcases h1 with ⟨rfl, h1⟩ | ⟨i, j, i', j', _, _, _, _, rfl, u1⟩
      · rcases h0 with ⟨rfl, h0⟩ | ⟨i, j, i', j', _, _, _, _, rfl, u0⟩
        · obtain ⟨k, l, m, g⟩ := good_of w (e7.symm.trans hw) hd h1 h0
          exact absurd g (ng k l m)
        · wtm_at "go"
          · exact ⟨⟨[], by simp⟩, rfl, papB_pair ng (.inr ⟨rfl, rfl⟩) u0⟩
          all_goals (rename_i h; exact absurd h (by simp))
      · wtm_at "go"
        · exact ⟨⟨[], by simp⟩, rfl, papB_pair ng (.inl ⟨rfl, rfl⟩) u1⟩
        all_goals (rename_i h; exact absurd h (by simp))
  · wtm_at "go"
    exact ⟨⟨[], by simp⟩, rfl, papB_web g⟩
/-! what is told -/
theorem x_check_bad {x : D} (hp : pd x = true) (h : webB x = false) {Q : D → Store → Prop} {X : Nat → List (List Nat × D) → Store → Prop} (hx : X 0 [] S) : WC (callF P n (d + 3)) 2 [x] S Q X := ⟨by rw [s_check_bad hp h]; exact hx⟩
theorem x_paper_bad {x : D} (hp : pd x = true) (h : webB x = false) {Q : D → Store → Prop} {X : Nat → List (List Nat × D) → Store → Prop} (hx : X 0 [] S) : WC (callF P n (d + 4)) 12 [x] S Q X := by
  apply c_exc p12 rfl g12
  apply w_exX
  apply e_call
  wtm_at "we"
  exact x_check_bad hp h ⟨rfl, ⟨[], by simp⟩, hx⟩
theorem x_takes_bad {x y : D} (hp : pd x = true) (h : webB x = false) {Q : D → Store → Prop} {X : Nat → List (List Nat × D) → Store → Prop} (hx : X 0 [] S) : WC (callF P n (d + 4)) 10 [x, y] S Q X := by
  apply c_exc p10 rfl g10
  apply w_exX
  apply e_call
  wtm_at "we"
  exact x_check_bad hp h ⟨rfl, ⟨[], by simp⟩, hx⟩
def wTold : List Nat := [116, 111, 108, 100]
def wMal : List Nat := [109, 97, 108, 102, 111, 114, 109, 101, 100]
theorem x_told {rows : List D} (w : Rw rows) (hr : webB (.tup rows) = true) (hp : pd (.tup rows) = true) : ∃ r, PapB rows r ∧ Cl (callF P n (d + 5)) S 25 [.int 0, .tup rows] (.tup [.str wTold, r]) := by
  obtain ⟨r, hr, c12⟩ := x_web_paper (n := n) (d := d) (S := S) w hr hp
  have c16 : Cl (callF P n (d + 4)) S 16 [r] r := x_honest (n := n) (d := d) (S := S) (m := 2) hr.ok hr.odd hr.dp (by decide)
  refine ⟨r, hr, ?_⟩
  apply c_ret p25 rfl g25 (pd_ref _ _ (pd_tup.mpr fun y hy => ?_))
  · apply w_try
    wtm_at "go"
    · exact ⟨rfl, rfl⟩
  · simp only [List.mem_cons, List.not_mem_nil, or_false] at hy
    rcases hy with rfl | rfl
    · decide
    · exact okB_pd hr.ok
theorem x_told_bad {x : D} (hp : pd x = true) (h : webB x = false) {i : Int} : Cl (callF P n (d + 5)) S 25 [.int i, x] (.tup [.str wMal, .non]) := by
  apply c_ret p25 rfl g25 rfl
  apply w_try
  wtm_at "go"
  · exact x_paper_bad hp h ⟨rfl, rfl⟩
  · exact x_takes_bad hp h ⟨rfl, rfl⟩
end K84
end
section
set_option maxRecDepth 100000
set_option maxHeartbeats 1000000
/-! K84F: what is a web; picks. -/
open DI
local macro_rules | `(tactic| wtm_at "fr") => `(tactic| simp only [List.getElem?_cons_zero, List.getElem?_cons_succ, List.set_cons_zero, List.set_cons_succ, wipe_cons, wipe_nil, setTg_nm, setTg_tp, setSl_cons, setSl_nil, List.cons_append, List.nil_append, List.map_cons, List.map_nil, List.length_cons, List.length_nil, List.length_map, List.length_range, List.reduceReplicate, Nat.reduceAdd, Nat.reduceSub])
local macro_rules | `(tactic| wtm_at "lf") => `(tactic| first
  | exact k_add | exact k_sub | apply k_mul | apply k_fdiv | apply k_mod | apply k_addt | apply k_addl
  | exact k_eqi | exact k_nei | exact k_lt | exact k_le | exact k_gt | exact k_ge | exact k_is | exact k_isnt | exact k_eqb | exact k_neb | apply k_eqp | apply k_nep
  | exact k_lent | exact k_lenl | exact k_lenk | exact k_inti | exact k_intb | exact k_abs | exact k_tupl | exact k_tupt | exact k_all | exact k_any | apply k_suml | apply k_sumt
  | exact n_map | exact n_nil | apply n_cons | with_reducible exact k_sltn | with_reducible exact k_sltf | with_reducible exact k_slts | with_reducible exact k_sltnl | with_reducible exact k_sltfl | with_reducible exact k_sltm | exact k_slt | exact k_sll | exact k_revt | exact k_revl | with_reducible apply k_ixt | with_reducible apply k_ixtl | with_reducible apply k_ixl | with_reducible apply k_ixll
  | exact a_0 | exact a_1 | exact a_2 | exact a_3 | exact a_4 | (apply a_map; wtm_at "ok") | apply a_rng | apply a_getD
  | apply keys_int | exact keys_nil | (apply StT.cellT; with_reducible assumption) | exact l_seq | exact l_seql | exact l_seqk | exact l_itm | exact l_itml | exact l_lst | exact l_zip | exact l_zipl | exact l_enum | exact l_enuml | exact l_map | exact l_zt | exact l_id
  | (apply y_tup; (conv => lhs; whnf); try exact rfl) | (apply y_fl; (conv => lhs; whnf); try exact rfl) | (apply y_kl; (conv => lhs; whnf); try exact rfl) | (apply y_int; (conv => lhs; whnf); try exact rfl) | (apply y_bl; (conv => lhs; whnf); try exact rfl) | (apply y_str; (conv => lhs; whnf); try exact rfl) | exact y_non | (apply y_one; assumption) | (apply y_two; assumption)
  | (apply m_r; first | omega | decide) | (apply m_l; first | omega | decide) | (apply d_s <;> first | omega | decide))
local macro_rules | `(tactic| wtm_at "e1") => `(tactic| first
  | exact z_con | exact z_var ⟨by wtm_at "fr"; exact rfl⟩
  | apply z_call | apply z_bin | apply z_cmp | apply z_ix | apply z_bi | apply z_isi | apply z_and | apply z_or | apply z_and1 | apply z_andc | apply z_or1 | apply z_orc
  | apply z_neg | apply z_not | apply z_chn | apply z_in | apply z_nin | apply z_ite | apply z_lset | apply z_sl | exact z_none | apply z_some | apply z_rev | apply z_tup | apply z_lst | apply z_lof | exact z_nil | apply z_cons
  | apply z_comp | apply z_compf | apply z_seq | with_reducible apply z_rng1l | apply z_rng1 | apply z_rng2 | apply z_zip | apply z_enum | with_reducible apply j_rng1l | apply z_inT | apply j_rng1 | (apply j_tup; wtm_at "ok") | (apply j_fl; wtm_at "ok")
  | (refine isP ?_; first
    | wtm_at "lf"
    | ((first | apply Tgs.mk | apply SetS.mk | apply SetTs.mk | apply App.mk); (try wtm_at "fr"); exact rfl)
    | (apply Small.mk; (try wtm_at "fr"); first | omega | (simp only [List.length_append, List.length_take, List.length_drop, List.length_reverse, List.length_dropLast]; omega))
    | with_reducible assumption
    | (show pd (D.str _) = true; decide) | (show dep _ ≤ 64; exact Nat.zero_le _) | (show flatD _ = true; exact rfl) | (show List.all _ flatD = true; exact rfl)
    | (intro h; (try simp only [decide_eq_true_eq, decide_eq_false_iff_not, List.mem_range, Bool.and_eq_true, Bool.not_eq_true', Bool.not_eq_false', not_true_eq_false, not_false_eq_true] at h))
    | omega | (simp only [List.length_cons, List.length_nil, List.length_map, List.length_range, List.length_append, List.length_take, List.length_drop, List.length_reverse, List.length_dropLast]; omega)))
local macro_rules | `(tactic| wtm_at "ev") => `(tactic| focus (repeat wtm_at "e1"))
local macro_rules | `(tactic| wtm_at "st") => `(tactic| first
  | (apply w_ret; wtm_at "ok") | (apply w_ex; wtm_at "ok") | apply loop_cons | apply loop_nil | (apply w_turn; wtm_at "ok") | (apply w_asg; wtm_at "ok"; wtm_at "ok") | (apply w_iff; wtm_at "ok"; wtm_at "ok"; wtm_at "ok") | (apply w_asgT; wtm_at "ok"; wtm_at "ok"; wtm_at "ok") | apply w_par2 | apply w_par3 | apply w_end | apply w_brk | apply w_cnt | apply w_pass | apply w_retN
  | (refine isP ?_; intro h; (try simp only [decide_eq_true_eq, decide_eq_false_iff_not, Bool.and_eq_true, Bool.not_eq_true', Bool.not_eq_false', not_true_eq_false, not_false_eq_true, reduceCtorEq, Bool.and_false, Bool.false_and, Bool.and_true, Bool.true_and, Bool.or_false, Bool.or_true, Bool.false_or, Bool.true_or, Bool.not_true, Bool.not_false] at h))
  | apply w_retX | apply w_exX | (apply w_raise; wtm_at "ok") | apply w_asgX | (apply w_iffX; wtm_at "ok"; wtm_at "ok") | apply w_asgTX | apply w_par2X | apply w_par3X)
local macro_rules | `(tactic| wtm_at "w1") => `(tactic| first
  | (apply e_pure; wtm_at "ok")
  | (apply e_pures; wtm_at "ok")
  | apply e_call | apply e_nil | apply e_cons | apply e_bin | apply e_cmp | apply e_ix | apply e_bi | apply e_not | apply e_tup | apply e_lst | apply e_new | apply e_newT | apply e_and | apply e_or | apply e_and1 | apply e_or1 | apply e_andc | apply e_orc | apply e_ite | apply i_nil | apply i_one
  | (apply ex_asg; wtm_at "ok"; wtm_at "ok") | (apply sx_pure; wtm_at "ok") | (refine fin_eff (by assumption) ?_ ?_)
  | (refine Exists.intro _ (And.intro rfl (And.intro ?_ ?_)) <;> intro h <;> (try simp only [decide_eq_true_eq, decide_eq_false_iff_not, Bool.and_eq_true, Bool.not_eq_true', Bool.not_eq_false', not_true_eq_false, not_false_eq_true, reduceCtorEq] at h))
  | (refine Exists.intro _ (And.intro rfl ?_))
  | (apply Exists.intro; apply And.intro; wtm_at "ok")
  | (apply And.intro; wtm_at "ok"))
local macro_rules | `(tactic| wtm_at "we") => `(tactic| focus (repeat' wtm_at "w1"))
local macro_rules | `(tactic| wtm_at "ok") => `(tactic| focus ((repeat wtm_at "e1"); done))
local macro_rules | `(tactic| wtm_at "go") => `(tactic| focus (repeat' first | wtm_at "st" | wtm_at "w1"))
namespace K84
open DI
variable {n d : Nat} {S : Store}
def intOf : D → Int
  | .int i => i
  | _ => 0
theorem k_lei {y : D} {i : Int} (h : isIntB y = true) : LCmp S .LtE (.int i) y (.bl (decide (i ≤ intOf y))) := by
  cases y <;> first | exact k_le | cases h
theorem k_lei2 {y : D} {i : Int} (h : isIntB y = true) : LCmp S .LtE y (.int i) (.bl (decide (intOf y ≤ i))) := by
  cases y <;> first | exact k_le | cases h
theorem bitB_eq (y : D) : (isIntB y && (decide (0 ≤ intOf y) && decide (intOf y ≤ 1))) = bitB y := by
  cases y <;> rfl
/-- rows of 0 and 1 -/
structure Ro (rows : List D) : Prop where
  ok : rows.all (rowB rows.length) = true
theorem Ro.at_ {rows : List D} (w : Ro rows) {a : Nat} (ha : a < rows.length) : At rows a (rowD rows a) := ⟨by
  obtain ⟨xs, h1, h2, h3⟩ := rows_at w.ok ha
  rw [h1]
  unfold rowD
  congr 2
  apply List.ext_getElem?
  intro c
  by_cases hc : c < rows.length
  · rw [h3 c hc, List.getElem?_map, List.getElem?_range hc]; rfl
  · rw [List.getElem?_eq_none (by omega), List.getElem?_eq_none (by simpa using hc)]⟩
theorem rowD_at {rows : List D} {a b : Nat} (hb : b < rows.length) : LIx S (rowD rows a) (.int (b : Int)) (.int (ent rows a b)) := k_ixt (a_map (a_rng hb))
structure PdEach (ds : List D) : Prop where
  h : ∀ a, a ∈ ds → pd a = true
theorem PdEach.at_ {ds : List D} {a : D} (e : PdEach ds) (h : a ∈ ds) : pd a = true := e.h a h
local macro_rules | `(tactic| wtm_at "lf") => `(tactic| first | (apply k_lei; with_reducible assumption) | (apply k_lei2; with_reducible assumption) | (apply Ro.at_; with_reducible assumption; omega) | (apply rowD_at; omega) | (apply x_is_whole; apply PdEach.at_ <;> with_reducible assumption))
theorem x_law_is_web {x : D} (hx : pd x = true) : Cl (callF P n (d + 2)) S 24 [x] (.bl (webB x)) := by
  cases x with
  | tup rows =>
    have hr := pd_tup.mp hx
    apply c_ret p24 rfl g24 rfl
    wtm_at "st"
    · wtm_at "go"
      rename_i h
      refine ⟨?_, rfl⟩
      simp at h
      simp only [webB]
      by_cases h2 : 2 ≤ rows.length
      · have : ¬ rows.length ≤ 64 := by omega
        simp [this]
      · simp [h2]
    · intro h
      simp at h
      apply w_for (g := fun d => d) (l := rows) (fun i s => (∃ o, s = [some (.tup rows), o, none, none, none]) ∧ ∀ j, j < i → rows[j]?.map (rowB rows.length) ≠ some false)
      · wtm_at "ok"
      · exact l_id
      · exact ⟨⟨none, rfl⟩, fun j hj => absurd hj (Nat.not_lt_zero _)⟩
      · rintro i r s hi ⟨⟨o, rfl⟩, hj⟩
        have hpr := hr r (List.mem_of_getElem? hi)
        have next : rowB rows.length r = true → ∀ j, j < i + 1 → (rows[j]?.map (rowB rows.length)) ≠ some false := fun hb j hlt => by
          by_cases e : j = i
          · subst e; rw [hi]; simp [hb]
          · exact hj j (by omega)
        have bad : rowB rows.length r = false → webB (.tup rows) = false := fun hb => by
          have : rows.all (rowB rows.length) = false := List.all_eq_false.mpr ⟨r, List.mem_of_getElem? hi, by simp [hb]⟩
          simp [webB, this]
        apply w_turn
        · wtm_at "ok"
        cases r with
        | tup xs =>
          have hE : PdEach xs := ⟨pd_tup.mp hpr⟩
          by_cases hl : xs.length = rows.length
          · have hs : xs.length ≤ 64 := by omega
            have hb : (xs.all fun y => isIntB y && (decide (0 ≤ intOf y) && decide (intOf y ≤ 1))) = rowB rows.length (.tup xs) := by
              simp only [bitB_eq, rowB, hl, decide_true, Bool.true_and]
            wtm_at "go"
            · rename_i h
              exact ⟨by rw [bad]; rw [← hb]; simpa [hl] using h, rfl⟩
            · rename_i h
              exact ⟨rfl, ⟨_, rfl⟩, next (by rw [← hb]; simpa [hl] using h)⟩
          · wtm_at "go"
            · exact ⟨by rw [bad]; simp [rowB, hl], rfl⟩
            · rename_i h
              simp at h
              omega
        | _ =>
          wtm_at "go"
          all_goals first | exact ⟨by rw [bad rfl], rfl⟩ | (rename_i h; cases h)
      · rintro s ⟨⟨o, rfl⟩, hj⟩
        have ho : Ro rows := ⟨List.all_eq_true.mpr fun r hr => by
          obtain ⟨j, hj1, hj2⟩ := List.getElem_of_mem hr
          have := hj j hj1
          rw [List.getElem?_eq_getElem hj1, hj2] at this
          simpa using this⟩
        wtm_at "go"
        refine ⟨?_, rfl⟩
        simp only [webB, ho.ok]
        have h2 : decide (2 ≤ rows.length) = true := by rw [decide_eq_true_eq]; omega
        have h3 : decide (rows.length ≤ 64) = true := by rw [decide_eq_true_eq]; omega
        rw [h2, h3]
        rfl
  | _ =>
    apply c_ret p24 rfl g24 rfl
    wtm_at "go"
    all_goals first | exact ⟨rfl, rfl⟩ | (rename_i h; cases h) | cases hx
end K84
end
section
set_option maxRecDepth 100000
set_option maxHeartbeats 1000000
/-! K84G: drawn webs. -/
open DI
local macro_rules | `(tactic| wtm_at "fr") => `(tactic| simp only [List.getElem?_cons_zero, List.getElem?_cons_succ, List.set_cons_zero, List.set_cons_succ, wipe_cons, wipe_nil, setTg_nm, setTg_tp, setSl_cons, setSl_nil, List.cons_append, List.nil_append, List.map_cons, List.map_nil, List.length_cons, List.length_nil, List.length_map, List.length_range, List.reduceReplicate, Nat.reduceAdd, Nat.reduceSub])
local macro_rules | `(tactic| wtm_at "lf") => `(tactic| first
  | exact k_add | exact k_sub | apply k_mul | apply k_fdiv | apply k_mod | apply k_addt | apply k_addl
  | exact k_eqi | exact k_nei | exact k_lt | exact k_le | exact k_gt | exact k_ge | exact k_is | exact k_isnt | exact k_eqb | exact k_neb | apply k_eqp | apply k_nep
  | exact k_lent | exact k_lenl | exact k_lenk | exact k_inti | exact k_intb | exact k_abs | exact k_tupl | exact k_tupt | exact k_all | exact k_any | apply k_suml | apply k_sumt
  | exact n_map | exact n_nil | apply n_cons | with_reducible exact k_sltn | with_reducible exact k_sltf | with_reducible exact k_slts | with_reducible exact k_sltnl | with_reducible exact k_sltfl | with_reducible exact k_sltm | exact k_slt | exact k_sll | exact k_revt | exact k_revl | with_reducible apply k_ixt | with_reducible apply k_ixtl | with_reducible apply k_ixl | with_reducible apply k_ixll
  | exact a_0 | exact a_1 | exact a_2 | exact a_3 | exact a_4 | (apply a_map; wtm_at "ok") | apply a_rng | apply a_getD
  | apply keys_int | exact keys_nil | (apply StT.cellT; with_reducible assumption) | exact l_seq | exact l_seql | exact l_seqk | exact l_itm | exact l_itml | exact l_lst | exact l_zip | exact l_zipl | exact l_enum | exact l_enuml | exact l_map | exact l_zt | exact l_id
  | (apply y_tup; (conv => lhs; whnf); try exact rfl) | (apply y_fl; (conv => lhs; whnf); try exact rfl) | (apply y_kl; (conv => lhs; whnf); try exact rfl) | (apply y_int; (conv => lhs; whnf); try exact rfl) | (apply y_bl; (conv => lhs; whnf); try exact rfl) | (apply y_str; (conv => lhs; whnf); try exact rfl) | exact y_non | (apply y_one; assumption) | (apply y_two; assumption)
  | (apply m_r; first | omega | decide) | (apply m_l; first | omega | decide) | (apply d_s <;> first | omega | decide))
local macro_rules | `(tactic| wtm_at "e1") => `(tactic| first
  | exact z_con | exact z_var ⟨by wtm_at "fr"; exact rfl⟩
  | apply z_call | apply z_bin | apply z_cmp | apply z_ix | apply z_bi | apply z_isi | apply z_and | apply z_or | apply z_and1 | apply z_andc | apply z_or1 | apply z_orc
  | apply z_neg | apply z_not | apply z_chn | apply z_in | apply z_nin | apply z_ite | apply z_lset | apply z_sl | exact z_none | apply z_some | apply z_rev | apply z_tup | apply z_lst | apply z_lof | exact z_nil | apply z_cons
  | apply z_comp | apply z_compf | apply z_seq | with_reducible apply z_rng1l | apply z_rng1 | apply z_rng2 | apply z_zip | apply z_enum | with_reducible apply j_rng1l | apply z_inT | apply j_rng1 | (apply j_tup; wtm_at "ok") | (apply j_fl; wtm_at "ok")
  | (refine isP ?_; first
    | wtm_at "lf"
    | ((first | apply Tgs.mk | apply SetS.mk | apply SetTs.mk | apply App.mk); (try wtm_at "fr"); exact rfl)
    | (apply Small.mk; (try wtm_at "fr"); first | omega | (simp only [List.length_append, List.length_take, List.length_drop, List.length_reverse, List.length_dropLast]; omega))
    | with_reducible assumption
    | (show pd (D.str _) = true; decide) | (show dep _ ≤ 64; exact Nat.zero_le _) | (show flatD _ = true; exact rfl) | (show List.all _ flatD = true; exact rfl)
    | (intro h; (try simp only [decide_eq_true_eq, decide_eq_false_iff_not, List.mem_range, Bool.and_eq_true, Bool.not_eq_true', Bool.not_eq_false', not_true_eq_false, not_false_eq_true] at h))
    | omega | (simp only [List.length_cons, List.length_nil, List.length_map, List.length_range, List.length_append, List.length_take, List.length_drop, List.length_reverse, List.length_dropLast]; omega)))
local macro_rules | `(tactic| wtm_at "ev") => `(tactic| focus (repeat wtm_at "e1"))
local macro_rules | `(tactic| wtm_at "st") => `(tactic| first
  | (apply w_ret; wtm_at "ok") | (apply w_ex; wtm_at "ok") | apply loop_cons | apply loop_nil | (apply w_turn; wtm_at "ok") | (apply w_asg; wtm_at "ok"; wtm_at "ok") | (apply w_iff; wtm_at "ok"; wtm_at "ok"; wtm_at "ok") | (apply w_asgT; wtm_at "ok"; wtm_at "ok"; wtm_at "ok") | apply w_par2 | apply w_par3 | apply w_end | apply w_brk | apply w_cnt | apply w_pass | apply w_retN
  | (refine isP ?_; intro h; (try simp only [decide_eq_true_eq, decide_eq_false_iff_not, Bool.and_eq_true, Bool.not_eq_true', Bool.not_eq_false', not_true_eq_false, not_false_eq_true, reduceCtorEq, Bool.and_false, Bool.false_and, Bool.and_true, Bool.true_and, Bool.or_false, Bool.or_true, Bool.false_or, Bool.true_or, Bool.not_true, Bool.not_false] at h))
  | apply w_retX | apply w_exX | (apply w_raise; wtm_at "ok") | apply w_asgX | (apply w_iffX; wtm_at "ok"; wtm_at "ok") | apply w_asgTX | apply w_par2X | apply w_par3X)
local macro_rules | `(tactic| wtm_at "w1") => `(tactic| first
  | (apply e_pure; wtm_at "ok")
  | (apply e_pures; wtm_at "ok")
  | apply e_call | apply e_nil | apply e_cons | apply e_bin | apply e_cmp | apply e_ix | apply e_bi | apply e_not | apply e_tup | apply e_lst | apply e_new | apply e_newT | apply e_and | apply e_or | apply e_and1 | apply e_or1 | apply e_andc | apply e_orc | apply e_ite | apply i_nil | apply i_one
  | (apply ex_asg; wtm_at "ok"; wtm_at "ok") | (apply sx_pure; wtm_at "ok") | (refine fin_eff (by assumption) ?_ ?_)
  | (refine Exists.intro _ (And.intro rfl (And.intro ?_ ?_)) <;> intro h <;> (try simp only [decide_eq_true_eq, decide_eq_false_iff_not, Bool.and_eq_true, Bool.not_eq_true', Bool.not_eq_false', not_true_eq_false, not_false_eq_true, reduceCtorEq] at h))
  | (refine Exists.intro _ (And.intro rfl ?_))
  | (apply Exists.intro; apply And.intro; wtm_at "ok")
  | (apply And.intro; wtm_at "ok"))
local macro_rules | `(tactic| wtm_at "we") => `(tactic| focus (repeat' wtm_at "w1"))
local macro_rules | `(tactic| wtm_at "ok") => `(tactic| focus ((repeat wtm_at "e1"); done))
local macro_rules | `(tactic| wtm_at "go") => `(tactic| focus (repeat' first | wtm_at "st" | wtm_at "w1"))
local macro_rules | `(tactic| wtm_at "w1") => `(tactic| (refine K84.x_take (by assumption) (by omega) (by omega) ?_; intro v S1 hv1 hS1))
local macro_rules | `(tactic| wtm_at "lf") => `(tactic| first | (apply K84.Rw.mp; with_reducible assumption) | (apply K84.Rw.mpe; with_reducible assumption) | (apply K84.Rw.at0; with_reducible assumption) | (apply K84.Rw.at_; with_reducible assumption; omega) | (apply K84.Rw.sm; with_reducible assumption) | exact K84.rowD_sum)
namespace K84
open DI
variable {n d : Nat} {S R : Store} {Q : D → Store → Prop} {X : Nat → List (List Nat × D) → Store → Prop}
theorem wp_rt {r : F} {k : Kt} {v : D} {S : Store} (e : r = .rt v S) (h : k.rt v S) : wpF r k := by rw [e]; exact h
theorem w_rt {cf : Nat → List D → Store → DI.R D} {n : Nat} {b : List St} {s : Sl} {S S' : Store} {k : Kt} {v : D} (e : execs cf n b s S = .rt v S') (h : k.rt v S') : W cf n b s S k := ⟨wp_rt e h⟩
def pk4 : List D := [.tup [.int 0, .int 1], .tup [.int 0, .int 2], .tup [.int 0, .int 3], .tup [.int 1, .int 2], .tup [.int 1, .int 3], .tup [.int 2, .int 3]]
theorem ex_picks4 : execs (callF P n d) n f22.body [some (.int 4), some (.int 2), none, none, none, none, none] S = .rt (.fl pk4) S := by kernel_rfl
theorem x_picks4 : Cl (callF P n (d + 1)) S 22 [.int 4, .int 2] (.fl pk4) := by
  apply c_ret p22 rfl g22
  · kernel_rfl
  · exact w_rt ex_picks4 ⟨rfl, rfl⟩
def pk5 : List D := [.tup [.int 0, .int 1], .tup [.int 0, .int 2], .tup [.int 0, .int 3], .tup [.int 0, .int 4], .tup [.int 1, .int 2], .tup [.int 1, .int 3], .tup [.int 1, .int 4], .tup [.int 2, .int 3], .tup [.int 2, .int 4], .tup [.int 3, .int 4]]
theorem ex_picks5 : execs (callF P n d) n f22.body [some (.int 5), some (.int 2), none, none, none, none, none] S = .rt (.fl pk5) S := by kernel_rfl
theorem x_picks5 : Cl (callF P n (d + 1)) S 22 [.int 5, .int 2] (.fl pk5) := by
  apply c_ret p22 rfl g22
  · kernel_rfl
  · exact w_rt ex_picks5 ⟨rfl, rfl⟩
def pk6 : List D := [.tup [.int 0, .int 1], .tup [.int 0, .int 2], .tup [.int 0, .int 3], .tup [.int 0, .int 4], .tup [.int 0, .int 5], .tup [.int 1, .int 2], .tup [.int 1, .int 3], .tup [.int 1, .int 4], .tup [.int 1, .int 5], .tup [.int 2, .int 3], .tup [.int 2, .int 4], .tup [.int 2, .int 5], .tup [.int 3, .int 4], .tup [.int 3, .int 5], .tup [.int 4, .int 5]]
theorem ex_picks6 : execs (callF P n d) n f22.body [some (.int 6), some (.int 2), none, none, none, none, none] S = .rt (.fl pk6) S := by kernel_rfl
theorem x_picks6 : Cl (callF P n (d + 1)) S 22 [.int 6, .int 2] (.fl pk6) := by
  apply c_ret p22 rfl g22
  · kernel_rfl
  · exact w_rt ex_picks6 ⟨rfl, rfl⟩
/-- the table of a relation -/
def tabD (v : Nat) (f : Nat → Nat → Bool) : List D := (List.range v).map fun a => .tup ((List.range v).map fun b => .int (if f a b = true then 1 else 0))
theorem tab_len {v : Nat} {f : Nat → Nat → Bool} : (tabD v f).length = v := by simp [tabD]
theorem tab_at {v : Nat} {f : Nat → Nat → Bool} {a : Nat} (ha : a < v) : (tabD v f)[a]? = some (.tup ((List.range v).map fun b => .int (if f a b = true then 1 else 0))) := by
  unfold tabD
  rw [List.getElem?_map, List.getElem?_range ha]; rfl
theorem tab_ent {v : Nat} {f : Nat → Nat → Bool} {a b : Nat} (ha : a < v) (hb : b < v) : ent (tabD v f) a b = if f a b = true then 1 else 0 := by
  unfold ent
  rw [tab_at ha]
  simp only
  rw [List.getElem?_map, List.getElem?_range hb]
  rfl
theorem tab_row {v : Nat} {f : Nat → Nat → Bool} : (tabD v f).all (rowB v) = true := by
  rw [List.all_eq_true]
  intro x hx
  obtain ⟨a, _, rfl⟩ := List.mem_map.mp hx
  simp only [rowB, List.length_map, List.length_range, decide_true, Bool.true_and, List.all_eq_true]
  intro y hy
  obtain ⟨b, _, rfl⟩ := List.mem_map.mp hy
  cases f a b <;> rfl
theorem tab_pd {v : Nat} {f : Nat → Nat → Bool} : ∀ x, x ∈ tabD v f → pd x = true := by
  intro x hx
  obtain ⟨a, _, rfl⟩ := List.mem_map.mp hx
  exact pd_tup.mpr fun y hy => by
    obtain ⟨b, _, rfl⟩ := List.mem_map.mp hy
    rfl
theorem tab_rw {v : Nat} {f : Nat → Nat → Bool} (h1 : 2 ≤ v) (h2 : v ≤ 64) (hs : ∀ a b, f a b = f b a) (hd : ∀ a, f a a = false) : Rw (tabD v f) where
  pd := tab_pd
  ok := by rw [tab_len]; exact tab_row
  lo := by rw [tab_len]; exact h1
  hi := by rw [tab_len]; exact h2
  sym := fun a b ha hb => by
    rw [tab_len] at ha hb
    rw [tab_ent ha hb, tab_ent hb ha, hs a b]
  dia := fun a ha => by
    rw [tab_len] at ha
    rw [tab_ent ha ha, hd a]; rfl
theorem Rw.web {rows : List D} (w : Rw rows) : webB (.tup rows) = true := by
  have := w.lo
  have := w.hi
  simp only [webB, w.ok, Bool.and_true, Bool.and_eq_true, decide_eq_true_eq, List.all_eq_true, List.mem_range]
  exact ⟨⟨w.lo, w.hi⟩, fun a ha => ⟨w.dia a ha, fun b hb => w.sym a b ha (by omega)⟩⟩
theorem Rw.pdt {rows : List D} (w : Rw rows) : DI.pd (.tup rows) = true := pd_tup.mpr w.pd
/-- pairs of ints -/
def pairs2 (es : List (Int × Int)) : List D := es.map fun e => .tup [.int e.1, .int e.2]
def Sym (kvs : List (List L2.Key × D)) : Prop := ∀ a b : Int, (lookD kvs [.inl a, .inl b]).isSome = (lookD kvs [.inl b, .inl a]).isSome
theorem sym_two {kvs : List (List L2.Key × D)} {a b : Int} {v w : D} (h : Sym kvs) : Sym (storeD (storeD kvs [.inl a, .inl b] v) [.inl b, .inl a] w) := by
  intro x y
  rw [look_store, look_store, look_store, look_store, h x y]
  by_cases h1 : a = x <;> by_cases h2 : b = y <;> by_cases h3 : a = y <;> by_cases h4 : b = x <;> simp [h1, h2, h3, h4]
theorem x_web_rest {v : Nat} {es : List (Int × Int)} {o1 o4 o5 o6 o7 o8 o9 o10 o11 : Option D} (h1 : 2 ≤ v) (h2 : v ≤ 64) (hl : es.length ≤ 100000) (hS : StT R S) (hq : ∀ rows, Rw rows → ∀ S1, StT R S1 → Q (.tup rows) S1) {S0 : Store} :
    W (callF P n (d + 1)) n (f23.body.drop 2) [some (.lst 0), o1, some (.int (v : Int)), some (.fl (pairs2 es)), o4, o5, o6, o7, o8, o9, o10, o11] S { nx := fun _ S1 => (∃ T, StT (R ++ T) S1) ∧ ∀ S2, StT R S2 → Q .non S2, rt := fun v S1 => (∃ T, StT (R ++ T) S1) ∧ noRef S0.length v = true ∧ ∀ S2, StT R S2 → Q v S2, ex := fun c pl S1 => pl = [] ∧ (∃ T, StT (R ++ T) S1) ∧ ∀ S2, StT R S2 → X c [] S2 } := by
  wtm_at "st"
  wtm_at "we"
  rename_i t S1 ht hS1
  wtm_at "st"
  wtm_at "we"
  wtm_at "fr"
  rw [hS1.len]
  have hl2 : (pairs2 es).length = es.length := by simp [pairs2]
  apply w_forS (l := es) (g := fun e => .tup [.int e.1, .int e.2]) (fun i s S => ∃ o4 o7 kvs, s = [some (.lst 0), o1, some (.int (v : Int)), some (.fl (pairs2 es)), o4, o5, o6, o7, o8, o9, some (.bl (decide ((t : Int) = 0))), some (.dct (R.length + 1))] ∧ StT (R ++ [.dT kvs]) S ∧ Sym kvs ∧ kvs.length ≤ 2 * i)
  · wtm_at "ok"
  · exact ⟨rfl⟩
  · exact ⟨o4, o7, [], rfl, hS1.app, fun a b => rfl, Nat.zero_le _⟩
  · rintro i ⟨a, b⟩ s S2 hi ⟨o4, o7, kvs, rfl, hS2, hsym, hk⟩
    have hi := (List.getElem?_eq_some_iff.mp hi).1
    apply w_turn
    · wtm_at "ok"
    apply w_putT
    iterate 7 (wtm_at "ok")
    have e1 := store_len (kvs := kvs) (k := [.inl a, .inl b]) (v := .bl true)
    have e2 := store_len (kvs := storeD kvs [.inl a, .inl b] (.bl true)) (k := [.inl b, .inl a]) (v := .bl true)
    have hS3 := hS2.set (c' := .dT (storeD kvs [.inl a, .inl b] (.bl true)))
    have hS4 := hS3.set (c' := .dT (storeD (storeD kvs [.inl a, .inl b] (.bl true)) [.inl b, .inl a] (.bl true)))
    apply w_putT
    iterate 7 (wtm_at "ok")
    exact w_end ⟨_, _, _, rfl, hS4, sym_two hsym, by omega⟩
  · rintro s S2 ⟨o4, o7, kvs, rfl, hS2, hsym, hk⟩
    wtm_at "go"
    have hw : Rw (tabD v fun a b => !decide ((a : Int) = (b : Int)) && !(false != (lookD kvs [.inl (a : Int), .inl (b : Int)]).isSome) == decide ((t : Int) = 0)) := tab_rw h1 h2 (fun a b => by
      rw [hsym (a : Int) (b : Int)]
      congr 2
      rw [decide_eq_decide]
      exact ⟨Eq.symm, Eq.symm⟩) (fun a => by simp)
    exact ⟨⟨_, hS2⟩, pd_ref _ _ hw.pdt, fun S3 hS3 => hq _ hw _ hS3⟩
theorem pairs_map {α : Type} {l : List α} {f g : α → Int} : (l.map fun a => D.tup [.int (f a), .int (g a)]) = pairs2 (l.map fun a => (f a, g a)) := by
  simp [pairs2]
end K84
end
section
set_option maxRecDepth 100000
set_option maxHeartbeats 1000000
/-! K84H: drawn webs, the branches. -/
open DI
local macro_rules | `(tactic| wtm_at "fr") => `(tactic| simp only [List.getElem?_cons_zero, List.getElem?_cons_succ, List.set_cons_zero, List.set_cons_succ, wipe_cons, wipe_nil, setTg_nm, setTg_tp, setSl_cons, setSl_nil, List.cons_append, List.nil_append, List.map_cons, List.map_nil, List.length_cons, List.length_nil, List.length_map, List.length_range, List.reduceReplicate, Nat.reduceAdd, Nat.reduceSub])
local macro_rules | `(tactic| wtm_at "lf") => `(tactic| first
  | exact k_add | exact k_sub | apply k_mul | apply k_fdiv | apply k_mod | apply k_addt | apply k_addl
  | exact k_eqi | exact k_nei | exact k_lt | exact k_le | exact k_gt | exact k_ge | exact k_is | exact k_isnt | exact k_eqb | exact k_neb | apply k_eqp | apply k_nep
  | exact k_lent | exact k_lenl | exact k_lenk | exact k_inti | exact k_intb | exact k_abs | exact k_tupl | exact k_tupt | exact k_all | exact k_any | apply k_suml | apply k_sumt
  | exact n_map | exact n_nil | apply n_cons | with_reducible exact k_sltn | with_reducible exact k_sltf | with_reducible exact k_slts | with_reducible exact k_sltnl | with_reducible exact k_sltfl | with_reducible exact k_sltm | exact k_slt | exact k_sll | exact k_revt | exact k_revl | with_reducible apply k_ixt | with_reducible apply k_ixtl | with_reducible apply k_ixl | with_reducible apply k_ixll
  | exact a_0 | exact a_1 | exact a_2 | exact a_3 | exact a_4 | (apply a_map; wtm_at "ok") | apply a_rng | apply a_getD
  | apply keys_int | exact keys_nil | (apply StT.cellT; with_reducible assumption) | exact l_seq | exact l_seql | exact l_seqk | exact l_itm | exact l_itml | exact l_lst | exact l_zip | exact l_zipl | exact l_enum | exact l_enuml | exact l_map | exact l_zt | exact l_id
  | (apply y_tup; (conv => lhs; whnf); try exact rfl) | (apply y_fl; (conv => lhs; whnf); try exact rfl) | (apply y_kl; (conv => lhs; whnf); try exact rfl) | (apply y_int; (conv => lhs; whnf); try exact rfl) | (apply y_bl; (conv => lhs; whnf); try exact rfl) | (apply y_str; (conv => lhs; whnf); try exact rfl) | exact y_non | (apply y_one; assumption) | (apply y_two; assumption)
  | (apply m_r; first | omega | decide) | (apply m_l; first | omega | decide) | (apply d_s <;> first | omega | decide))
local macro_rules | `(tactic| wtm_at "e1") => `(tactic| first
  | exact z_con | exact z_var ⟨by wtm_at "fr"; exact rfl⟩
  | apply z_call | apply z_bin | apply z_cmp | apply z_ix | apply z_bi | apply z_isi | apply z_and | apply z_or | apply z_and1 | apply z_andc | apply z_or1 | apply z_orc
  | apply z_neg | apply z_not | apply z_chn | apply z_in | apply z_nin | apply z_ite | apply z_lset | apply z_sl | exact z_none | apply z_some | apply z_rev | apply z_tup | apply z_lst | apply z_lof | exact z_nil | apply z_cons
  | apply z_comp | apply z_compf | apply z_seq | with_reducible apply z_rng1l | apply z_rng1 | apply z_rng2 | apply z_zip | apply z_enum | with_reducible apply j_rng1l | apply z_inT | apply j_rng1 | (apply j_tup; wtm_at "ok") | (apply j_fl; wtm_at "ok")
  | (refine isP ?_; first
    | wtm_at "lf"
    | ((first | apply Tgs.mk | apply SetS.mk | apply SetTs.mk | apply App.mk); (try wtm_at "fr"); exact rfl)
    | (apply Small.mk; (try wtm_at "fr"); first | omega | (simp only [List.length_append, List.length_take, List.length_drop, List.length_reverse, List.length_dropLast]; omega))
    | with_reducible assumption
    | (show pd (D.str _) = true; decide) | (show dep _ ≤ 64; exact Nat.zero_le _) | (show flatD _ = true; exact rfl) | (show List.all _ flatD = true; exact rfl)
    | (intro h; (try simp only [decide_eq_true_eq, decide_eq_false_iff_not, List.mem_range, Bool.and_eq_true, Bool.not_eq_true', Bool.not_eq_false', not_true_eq_false, not_false_eq_true] at h))
    | omega | (simp only [List.length_cons, List.length_nil, List.length_map, List.length_range, List.length_append, List.length_take, List.length_drop, List.length_reverse, List.length_dropLast]; omega)))
local macro_rules | `(tactic| wtm_at "ev") => `(tactic| focus (repeat wtm_at "e1"))
local macro_rules | `(tactic| wtm_at "st") => `(tactic| first
  | (apply w_ret; wtm_at "ok") | (apply w_ex; wtm_at "ok") | apply loop_cons | apply loop_nil | (apply w_turn; wtm_at "ok") | (apply w_asg; wtm_at "ok"; wtm_at "ok") | (apply w_iff; wtm_at "ok"; wtm_at "ok"; wtm_at "ok") | (apply w_asgT; wtm_at "ok"; wtm_at "ok"; wtm_at "ok") | apply w_par2 | apply w_par3 | apply w_end | apply w_brk | apply w_cnt | apply w_pass | apply w_retN
  | (refine isP ?_; intro h; (try simp only [decide_eq_true_eq, decide_eq_false_iff_not, Bool.and_eq_true, Bool.not_eq_true', Bool.not_eq_false', not_true_eq_false, not_false_eq_true, reduceCtorEq, Bool.and_false, Bool.false_and, Bool.and_true, Bool.true_and, Bool.or_false, Bool.or_true, Bool.false_or, Bool.true_or, Bool.not_true, Bool.not_false] at h))
  | apply w_retX | apply w_exX | (apply w_raise; wtm_at "ok") | apply w_asgX | (apply w_iffX; wtm_at "ok"; wtm_at "ok") | apply w_asgTX | apply w_par2X | apply w_par3X)
local macro_rules | `(tactic| wtm_at "w1") => `(tactic| first
  | (apply e_pure; wtm_at "ok")
  | (apply e_pures; wtm_at "ok")
  | apply e_call | apply e_nil | apply e_cons | apply e_bin | apply e_cmp | apply e_ix | apply e_bi | apply e_not | apply e_tup | apply e_lst | apply e_new | apply e_newT | apply e_and | apply e_or | apply e_and1 | apply e_or1 | apply e_andc | apply e_orc | apply e_ite | apply i_nil | apply i_one
  | (apply ex_asg; wtm_at "ok"; wtm_at "ok") | (apply sx_pure; wtm_at "ok") | (refine fin_eff (by assumption) ?_ ?_)
  | (refine Exists.intro _ (And.intro rfl (And.intro ?_ ?_)) <;> intro h <;> (try simp only [decide_eq_true_eq, decide_eq_false_iff_not, Bool.and_eq_true, Bool.not_eq_true', Bool.not_eq_false', not_true_eq_false, not_false_eq_true, reduceCtorEq] at h))
  | (refine Exists.intro _ (And.intro rfl ?_))
  | (apply Exists.intro; apply And.intro; wtm_at "ok")
  | (apply And.intro; wtm_at "ok"))
local macro_rules | `(tactic| wtm_at "we") => `(tactic| focus (repeat' wtm_at "w1"))
local macro_rules | `(tactic| wtm_at "ok") => `(tactic| focus ((repeat wtm_at "e1"); done))
local macro_rules | `(tactic| wtm_at "go") => `(tactic| focus (repeat' first | wtm_at "st" | wtm_at "w1"))
local macro_rules | `(tactic| wtm_at "w1") => `(tactic| (refine K84.x_take (by assumption) (by omega) (by omega) ?_; intro v S1 hv1 hS1))
local macro_rules | `(tactic| wtm_at "lf") => `(tactic| first | (apply K84.Rw.mp; with_reducible assumption) | (apply K84.Rw.mpe; with_reducible assumption) | (apply K84.Rw.at0; with_reducible assumption) | (apply K84.Rw.at_; with_reducible assumption; omega) | (apply K84.Rw.sm; with_reducible assumption) | exact K84.rowD_sum)
namespace K84
open DI
variable {n d : Nat} {S R : Store} {Q : D → Store → Prop} {X : Nat → List (List Nat × D) → Store → Prop}
theorem k_addp {α : Type} {es : List (Int × Int)} {l : List α} {q : α → Bool} {g : α → D} (h1 : es.length ≤ 10000) (h2 : l.length ≤ 64) : LBin S .Add (.fl (pairs2 es)) (.fl ((l.filter q).map g)) (.fl (pairs2 es ++ (l.filter q).map g)) := k_addl (by
  have := List.length_filter_le q l
  simp only [pairs2, List.length_map]
  omega)
theorem pairs_app {α : Type} {es : List (Int × Int)} {l : List α} {q : α → Bool} {f g : α → Int} : pairs2 es ++ (l.filter q).map (fun a => D.tup [.int (f a), .int (g a)]) = pairs2 (es ++ (l.filter q).map fun a => (f a, g a)) := by
  simp [pairs2]
theorem pairs_len {α : Type} {es : List (Int × Int)} {l : List α} {q : α → Bool} {f g : α → Int} {i : Nat} (h : es.length ≤ i * 64) (hl : l.length ≤ 64) : (es ++ (l.filter q).map fun a => (f a, g a)).length ≤ (i + 1) * 64 := by
  have := List.length_filter_le q l
  simp only [List.length_append, List.length_map]
  omega
local macro_rules | `(tactic| wtm_at "lf") => `(tactic| (apply k_addp; omega; (simp only [List.length_range]; omega)))
def lk4 : List (List D) := [[.int 0, .int 1], [.int 0, .int 2], [.int 0, .int 3], [.int 1, .int 2], [.int 1, .int 3], [.int 2, .int 3]]
theorem pk_lk4 : pk4 = lk4.map .tup := rfl
def lk5 : List (List D) := [[.int 0, .int 1], [.int 0, .int 2], [.int 0, .int 3], [.int 0, .int 4], [.int 1, .int 2], [.int 1, .int 3], [.int 1, .int 4], [.int 2, .int 3], [.int 2, .int 4], [.int 3, .int 4]]
theorem pk_lk5 : pk5 = lk5.map .tup := rfl
def lk6 : List (List D) := [[.int 0, .int 1], [.int 0, .int 2], [.int 0, .int 3], [.int 0, .int 4], [.int 0, .int 5], [.int 1, .int 2], [.int 1, .int 3], [.int 1, .int 4], [.int 1, .int 5], [.int 2, .int 3], [.int 2, .int 4], [.int 2, .int 5], [.int 3, .int 4], [.int 3, .int 5], [.int 4, .int 5]]
theorem pk_lk6 : pk6 = lk6.map .tup := rfl
/-- choices: short lists of flat values -/
structure PF (ls : List (List D)) : Prop where
  lo : 2 ≤ ls.length
  hi : ls.length ≤ 64
  fl : ∀ l, l ∈ ls → l.all flatD = true ∧ l.length ≤ 10
theorem PF.of {ls : List (List D)} (h : (decide (2 ≤ ls.length) && decide (ls.length ≤ 64) && ls.all fun l => l.all flatD && decide (l.length ≤ 10)) = true) : PF ls := by
  simp only [Bool.and_eq_true, decide_eq_true_eq, List.all_eq_true] at h
  exact ⟨h.1.1, h.1.2, fun l hl => ⟨by rw [List.all_eq_true]; exact (h.2 l hl).1, (h.2 l hl).2⟩⟩
theorem PF.mem {ls : List (List D)} (f : PF ls) {a : Nat} (ha : a < ls.length) : ls.getD a [] ∈ ls := by
  rw [List.getD_eq_getElem?_getD, List.getElem?_eq_getElem ha]
  exact List.getElem_mem ha
theorem PF.at_ {ls : List (List D)} (f : PF ls) {a : Nat} (ha : a < ls.length) : At (ls.map D.tup) a (.tup (ls.getD a [])) := a_map ⟨by rw [List.getD_eq_getElem?_getD, List.getElem?_eq_getElem ha]; rfl⟩
theorem PF.sm {ls : List (List D)} (f : PF ls) {a : Nat} (ha : a < ls.length) : Small (ls.getD a []) := ⟨by have := (f.fl _ (f.mem ha)).2; omega⟩
theorem PF.all {ls : List (List D)} (f : PF ls) {a : Nat} (ha : a < ls.length) : (ls.getD a []).all flatD = true := (f.fl _ (f.mem ha)).1
theorem PF.one {ls : List (List D)} (f : PF ls) {a : Nat} {x : D} (hx : x ∈ ls.getD a []) (ha : a < ls.length) : flatD x = true := List.all_eq_true.mp (f.all ha) x hx
local macro_rules | `(tactic| wtm_at "lf") => `(tactic| first | (apply PF.at_; with_reducible assumption; omega) | (apply PF.sm; with_reducible assumption; omega) | (apply PF.all; with_reducible assumption; omega) | (apply PF.one; with_reducible assumption; with_reducible assumption; omega))
theorem x_law_web (hS : StT R S) (hq : ∀ rows, Rw rows → ∀ S1, StT R S1 → Q (.tup rows) S1) : WC (callF P n (d + 2)) 23 [.lst 0] S Q X := by
  apply c_eff p23 rfl g23 hS
  wtm_at "st"
  wtm_at "we"
  rename_i p S1 hp hS1
  wtm_at "st"
  · wtm_at "st"
    wtm_at "st"
    wtm_at "we"
    rename_i v S2 hv hS2
    have e : (3 + (v : Int)) = ((3 + v : Nat) : Int) := by omega
    rw [e]
    generalize hvv : 3 + v = vv
    wtm_at "st"
    rw [pairs_map]
    exact x_web_rest (by omega) (by omega) (by simp; omega) hS2 hq
  · wtm_at "st"
    wtm_at "st"
    · wtm_at "st"
      wtm_at "st"
      wtm_at "we"
      rename_i m0 S2 hm hS2 n0 S3 hn hS3
      have e1 : (2 + (m0 : Int)) = ((2 + m0 : Nat) : Int) := by omega
      have e2 : (1 + (n0 : Int)) = ((1 + n0 : Nat) : Int) := by omega
      rw [e1, e2]
      have hb : (2 + m0) * (1 + n0) ≤ 64 ∧ 2 ≤ (2 + m0) * (1 + n0) := by
        have h1 : m0 = 0 ∨ m0 = 1 ∨ m0 = 2 := by omega
        have h2 : n0 = 0 ∨ n0 = 1 ∨ n0 = 2 ∨ n0 = 3 := by omega
        rcases h1 with rfl | rfl | rfl <;> rcases h2 with rfl | rfl | rfl | rfl <;> decide
      generalize hmm : 2 + m0 = mm at hb
      generalize hnn : 1 + n0 = nn at hb
      wtm_at "st"
      generalize hvv : mm * nn = vv at hb
      have e3 : ((mm : Int) * (nn : Int)) = (vv : Int) := by rw [← hvv]; simp
      rw [e3]
      apply w_forr (m := vv) (fun i s => ∃ o4 o7 es, s = [some (.lst 0), some (.int p), some (.int (vv : Int)), some (.fl (pairs2 es)), o4, some (.int (mm : Int)), some (.int (nn : Int)), o7, none, none, none, none] ∧ es.length ≤ i * 64)
      · apply z_rng1'
        · wtm_at "ok"
        · exact e3
        · omega
      · exact l_map
      · exact ⟨none, none, [], rfl, Nat.zero_le _⟩
      · rintro i s hi ⟨o4, o7, es, rfl, hl⟩
        have hl' : es.length ≤ 10000 := by omega
        apply w_turn
        · wtm_at "ok"
        wtm_at "st"
        rw [pairs_app]
        exact w_end ⟨rfl, _, _, _, rfl, pairs_len hl (by simp; omega)⟩
      · rintro s ⟨o4, o7, es, rfl, hl⟩
        exact x_web_rest (by omega) (by omega) (by omega) hS3 hq
    · wtm_at "st"
      wtm_at "st"
      · wtm_at "st"
        wtm_at "st"
        wtm_at "we"
        rename_i u S2 hu hS2
        obtain ⟨ls, pf, hc⟩ : ∃ ls, PF ls ∧ Cl (callF P n (d + 1)) S2 22 [.int (4 + (u : Int)), .int 2] (.fl (ls.map .tup)) := by
          have h1 : u = 0 ∨ u = 1 ∨ u = 2 := by omega
          rcases h1 with rfl | rfl | rfl
          · exact ⟨lk4, .of (by decide), pk_lk4 ▸ x_picks4⟩
          · exact ⟨lk5, .of (by decide), pk_lk5 ▸ x_picks5⟩
          · exact ⟨lk6, .of (by decide), pk_lk6 ▸ x_picks6⟩
        have hlo := pf.lo
        have hhi := pf.hi
        refine sx_pure hc ?_
        wtm_at "st"
        apply w_forr (m := ls.length) (fun i s => ∃ o4 o7 es, s = [some (.lst 0), some (.int p), some (.int (ls.length : Int)), some (.fl (pairs2 es)), o4, none, none, o7, some (.fl (ls.map .tup)), none, none, none] ∧ es.length ≤ i * 64)
        · wtm_at "ok"
        · exact l_map
        · exact ⟨none, none, [], rfl, Nat.zero_le _⟩
        · rintro i s hi ⟨o4, o7, es, rfl, hl⟩
          have hl' : es.length ≤ 10000 := by omega
          apply w_turn
          · wtm_at "ok"
          wtm_at "st"
          rw [pairs_app]
          exact w_end ⟨rfl, _, _, _, rfl, pairs_len hl (by simp; omega)⟩
        · rintro s ⟨o4, o7, es, rfl, hl⟩
          exact x_web_rest (by omega) (by omega) (by omega) hS2 hq
      · wtm_at "st"
        wtm_at "st"
        · wtm_at "st"
          wtm_at "st"
          wtm_at "we"
          rename_i n0 S2 hn hS2
          have e1 : (2 + (n0 : Int)) = ((2 + n0 : Nat) : Int) := by omega
          rw [e1]
          have hb : (2 + n0) * (2 + n0) ≤ 64 ∧ 2 ≤ (2 + n0) * (2 + n0) := by
            have h1 : n0 = 0 ∨ n0 = 1 ∨ n0 = 2 := by omega
            rcases h1 with rfl | rfl | rfl <;> decide
          generalize hnn : 2 + n0 = nn at hb
          wtm_at "st"
          generalize hvv : nn * nn = vv at hb
          have e3 : ((nn : Int) * (nn : Int)) = (vv : Int) := by rw [← hvv]; simp
          rw [e3]
          apply w_forr (m := vv) (fun i s => ∃ o4 o7 es, s = [some (.lst 0), some (.int p), some (.int (vv : Int)), some (.fl (pairs2 es)), o4, none, some (.int (nn : Int)), o7, none, none, none, none] ∧ es.length ≤ i * 64)
          · wtm_at "ok"
          · exact l_map
          · exact ⟨none, none, [], rfl, Nat.zero_le _⟩
          · rintro i s hi ⟨o4, o7, es, rfl, hl⟩
            have hl' : es.length ≤ 10000 := by omega
            apply w_turn
            · wtm_at "ok"
            wtm_at "st"
            rw [pairs_app]
            exact w_end ⟨rfl, _, _, _, rfl, pairs_len hl (by simp; omega)⟩
          · rintro s ⟨o4, o7, es, rfl, hl⟩
            exact x_web_rest (by omega) (by omega) (by omega) hS2 hq
        · wtm_at "st"
          wtm_at "st"
          · wtm_at "st"
            wtm_at "st"
            apply w_forr (m := 13) (fun i s => ∃ o4 o7 es, s = [some (.lst 0), some (.int p), some (.int ((13 : Nat) : Int)), some (.fl (pairs2 es)), o4, none, none, o7, none, none, none, none] ∧ es.length ≤ i * 64)
            · wtm_at "ok"
            · exact l_map
            · exact ⟨none, none, [], rfl, Nat.zero_le _⟩
            · rintro i s hi ⟨o4, o7, es, rfl, hl⟩
              have hl' : es.length ≤ 10000 := by omega
              apply w_turn
              · wtm_at "ok"
              wtm_at "st"
              rw [pairs_app]
              exact w_end ⟨rfl, _, _, _, rfl, pairs_len hl (by simp; omega)⟩
            · rintro s ⟨o4, o7, es, rfl, hl⟩
              exact x_web_rest (by omega) (by omega) (by omega) hS1 hq
          · wtm_at "st"
            wtm_at "st"
            wtm_at "we"
            rename_i v0 S2 hv hS2
            have e1 : (2 + (v0 : Int)) = ((2 + v0 : Nat) : Int) := by omega
            rw [e1]
            generalize hvv : 2 + v0 = vv
            apply w_forS (l := List.range vv) (g := fun (i : Nat) => .int (i : Int)) (fun i s S => ∃ o4 o7 es, s = [some (.lst 0), some (.int p), some (.int (vv : Int)), some (.fl (pairs2 es)), o4, none, none, o7, none, none, none, none] ∧ es.length ≤ i * 64 ∧ StT R S)
            · wtm_at "ok"
            · exact l_map
            · exact ⟨none, none, [], rfl, Nat.zero_le _, hS2⟩
            · rintro i a s S3 hi ⟨o4, o7, es, rfl, hl, hS3⟩
              have hi2 := (List.getElem?_eq_some_iff.mp hi).1
              rw [List.length_range] at hi2
              rw [List.getElem?_range hi2] at hi
              cases hi
              apply w_turn
              · wtm_at "ok"
              wtm_at "st"
              apply e_bin
              wtm_at "w1"
              apply e_comp (I := StT R) (G := fun x => ∃ b : Int, x = .tup [.int (i : Int), .int b])
              · wtm_at "ok"
              · wtm_at "ok"
              · exact hS3
              · intro x S4 hx hS4
                obtain ⟨b, hb, rfl⟩ := List.mem_map.mp hx
                refine ⟨_, by wtm_at "fr"; exact rfl, ?_⟩
                apply i_one
                wtm_at "we"
                rename_i u S5 hu hS5
                have h2 : u = 0 ∨ u = 1 := by omega
                have hx2 : ∃ m : Int, [D.int 2, D.int 3].getD u .non = .int m ∧ 1 ≤ m ∧ m < 1073741824 := by
                  rcases h2 with rfl | rfl
                  · exact ⟨2, rfl, by decide, by decide⟩
                  · exact ⟨3, rfl, by decide, by decide⟩
                obtain ⟨m, e5, hm1, hm2⟩ := hx2
                rw [e5]
                wtm_at "we"
                · assumption
                · exact ⟨_, rfl⟩
              · intro acc S4 hS4 hacc hlen
                obtain ⟨es2, rfl, hes2⟩ : ∃ es2, acc = pairs2 es2 ∧ es2.length = acc.length := by
                  clear hlen
                  induction acc with
                  | nil => exact ⟨[], rfl, rfl⟩
                  | cons x acc ih =>
                    obtain ⟨es2, rfl, h⟩ := ih fun y hy => hacc y (List.mem_cons_of_mem _ hy)
                    obtain ⟨b, rfl⟩ := hacc x List.mem_cons_self
                    exact ⟨((i : Int), b) :: es2, rfl, by simp [h]⟩
                have hpl : ∀ es : List (Int × Int), (pairs2 es).length = es.length := fun es => by simp [pairs2]
                have hp1 := hpl es
                simp only [List.length_map, List.length_range] at hlen
                refine ⟨.fl (pairs2 (es ++ es2)), ?_, ?_⟩
                · have : pairs2 (es ++ es2) = pairs2 es ++ pairs2 es2 := by simp [pairs2]
                  rw [this]
                  exact k_addl (by omega)
                · exact w_end ⟨_, _, _, rfl, by simp; omega, hS4⟩
            · rintro s S3 ⟨o4, o7, es, rfl, hl, hS3⟩
              rw [List.length_range] at hl
              exact x_web_rest (by omega) (by omega) (by omega) hS3 hq
end K84
end
section
set_option maxRecDepth 100000
set_option maxHeartbeats 1000000
/-! K84I: a web that is right. -/
open DI
local macro_rules | `(tactic| wtm_at "fr") => `(tactic| simp only [List.getElem?_cons_zero, List.getElem?_cons_succ, List.set_cons_zero, List.set_cons_succ, wipe_cons, wipe_nil, setTg_nm, setTg_tp, setSl_cons, setSl_nil, List.cons_append, List.nil_append, List.map_cons, List.map_nil, List.length_cons, List.length_nil, List.length_map, List.length_range, List.reduceReplicate, Nat.reduceAdd, Nat.reduceSub])
local macro_rules | `(tactic| wtm_at "lf") => `(tactic| first
  | exact k_add | exact k_sub | apply k_mul | apply k_fdiv | apply k_mod | apply k_addt | apply k_addl
  | exact k_eqi | exact k_nei | exact k_lt | exact k_le | exact k_gt | exact k_ge | exact k_is | exact k_isnt | exact k_eqb | exact k_neb | apply k_eqp | apply k_nep
  | exact k_lent | exact k_lenl | exact k_lenk | exact k_inti | exact k_intb | exact k_abs | exact k_tupl | exact k_tupt | exact k_all | exact k_any | apply k_suml | apply k_sumt
  | exact n_map | exact n_nil | apply n_cons | with_reducible exact k_sltn | with_reducible exact k_sltf | with_reducible exact k_slts | with_reducible exact k_sltnl | with_reducible exact k_sltfl | with_reducible exact k_sltm | exact k_slt | exact k_sll | exact k_revt | exact k_revl | with_reducible apply k_ixt | with_reducible apply k_ixtl | with_reducible apply k_ixl | with_reducible apply k_ixll
  | exact a_0 | exact a_1 | exact a_2 | exact a_3 | exact a_4 | (apply a_map; wtm_at "ok") | apply a_rng | apply a_getD
  | apply keys_int | exact keys_nil | (apply StT.cellT; with_reducible assumption) | exact l_seq | exact l_seql | exact l_seqk | exact l_itm | exact l_itml | exact l_lst | exact l_zip | exact l_zipl | exact l_enum | exact l_enuml | exact l_map | exact l_zt | exact l_id
  | (apply y_tup; (conv => lhs; whnf); try exact rfl) | (apply y_fl; (conv => lhs; whnf); try exact rfl) | (apply y_kl; (conv => lhs; whnf); try exact rfl) | (apply y_int; (conv => lhs; whnf); try exact rfl) | (apply y_bl; (conv => lhs; whnf); try exact rfl) | (apply y_str; (conv => lhs; whnf); try exact rfl) | exact y_non | (apply y_one; assumption) | (apply y_two; assumption)
  | (apply m_r; first | omega | decide) | (apply m_l; first | omega | decide) | (apply d_s <;> first | omega | decide))
local macro_rules | `(tactic| wtm_at "e1") => `(tactic| first
  | exact z_con | exact z_var ⟨by wtm_at "fr"; exact rfl⟩
  | apply z_call | apply z_bin | apply z_cmp | apply z_ix | apply z_bi | apply z_isi | apply z_and | apply z_or | apply z_and1 | apply z_andc | apply z_or1 | apply z_orc
  | apply z_neg | apply z_not | apply z_chn | apply z_in | apply z_nin | apply z_ite | apply z_lset | apply z_sl | exact z_none | apply z_some | apply z_rev | apply z_tup | apply z_lst | apply z_lof | exact z_nil | apply z_cons
  | apply z_comp | apply z_compf | apply z_seq | with_reducible apply z_rng1l | apply z_rng1 | apply z_rng2 | apply z_zip | apply z_enum | with_reducible apply j_rng1l | apply z_inT | apply j_rng1 | (apply j_tup; wtm_at "ok") | (apply j_fl; wtm_at "ok")
  | (refine isP ?_; first
    | wtm_at "lf"
    | ((first | apply Tgs.mk | apply SetS.mk | apply SetTs.mk | apply App.mk); (try wtm_at "fr"); exact rfl)
    | (apply Small.mk; (try wtm_at "fr"); first | omega | (simp only [List.length_append, List.length_take, List.length_drop, List.length_reverse, List.length_dropLast]; omega))
    | with_reducible assumption
    | (show pd (D.str _) = true; decide) | (show dep _ ≤ 64; exact Nat.zero_le _) | (show flatD _ = true; exact rfl) | (show List.all _ flatD = true; exact rfl)
    | (intro h; (try simp only [decide_eq_true_eq, decide_eq_false_iff_not, List.mem_range, Bool.and_eq_true, Bool.not_eq_true', Bool.not_eq_false', not_true_eq_false, not_false_eq_true] at h))
    | omega | (simp only [List.length_cons, List.length_nil, List.length_map, List.length_range, List.length_append, List.length_take, List.length_drop, List.length_reverse, List.length_dropLast]; omega)))
local macro_rules | `(tactic| wtm_at "ev") => `(tactic| focus (repeat wtm_at "e1"))
local macro_rules | `(tactic| wtm_at "st") => `(tactic| first
  | (apply w_ret; wtm_at "ok") | (apply w_ex; wtm_at "ok") | apply loop_cons | apply loop_nil | (apply w_turn; wtm_at "ok") | (apply w_asg; wtm_at "ok"; wtm_at "ok") | (apply w_iff; wtm_at "ok"; wtm_at "ok"; wtm_at "ok") | (apply w_asgT; wtm_at "ok"; wtm_at "ok"; wtm_at "ok") | apply w_par2 | apply w_par3 | apply w_end | apply w_brk | apply w_cnt | apply w_pass | apply w_retN
  | (refine isP ?_; intro h; (try simp only [decide_eq_true_eq, decide_eq_false_iff_not, Bool.and_eq_true, Bool.not_eq_true', Bool.not_eq_false', not_true_eq_false, not_false_eq_true, reduceCtorEq, Bool.and_false, Bool.false_and, Bool.and_true, Bool.true_and, Bool.or_false, Bool.or_true, Bool.false_or, Bool.true_or, Bool.not_true, Bool.not_false] at h))
  | apply w_retX | apply w_exX | (apply w_raise; wtm_at "ok") | apply w_asgX | (apply w_iffX; wtm_at "ok"; wtm_at "ok") | apply w_asgTX | apply w_par2X | apply w_par3X)
local macro_rules | `(tactic| wtm_at "w1") => `(tactic| first
  | (apply e_pure; wtm_at "ok")
  | (apply e_pures; wtm_at "ok")
  | apply e_call | apply e_nil | apply e_cons | apply e_bin | apply e_cmp | apply e_ix | apply e_bi | apply e_not | apply e_tup | apply e_lst | apply e_new | apply e_newT | apply e_and | apply e_or | apply e_and1 | apply e_or1 | apply e_andc | apply e_orc | apply e_ite | apply i_nil | apply i_one
  | (apply ex_asg; wtm_at "ok"; wtm_at "ok") | (apply sx_pure; wtm_at "ok") | (refine fin_eff (by assumption) ?_ ?_)
  | (refine Exists.intro _ (And.intro rfl (And.intro ?_ ?_)) <;> intro h <;> (try simp only [decide_eq_true_eq, decide_eq_false_iff_not, Bool.and_eq_true, Bool.not_eq_true', Bool.not_eq_false', not_true_eq_false, not_false_eq_true, reduceCtorEq] at h))
  | (refine Exists.intro _ (And.intro rfl ?_))
  | (apply Exists.intro; apply And.intro; wtm_at "ok")
  | (apply And.intro; wtm_at "ok"))
local macro_rules | `(tactic| wtm_at "we") => `(tactic| focus (repeat' wtm_at "w1"))
local macro_rules | `(tactic| wtm_at "ok") => `(tactic| focus ((repeat wtm_at "e1"); done))
local macro_rules | `(tactic| wtm_at "go") => `(tactic| focus (repeat' first | wtm_at "st" | wtm_at "w1"))
local macro_rules | `(tactic| wtm_at "w1") => `(tactic| (refine K84.x_take (by assumption) (by omega) (by omega) ?_; intro v S1 hv1 hS1))
local macro_rules | `(tactic| wtm_at "lf") => `(tactic| first | (apply K84.Rw.mp; with_reducible assumption) | (apply K84.Rw.mpe; with_reducible assumption) | (apply K84.Rw.at0; with_reducible assumption) | (apply K84.Rw.at_; with_reducible assumption; omega) | (apply K84.Rw.sm; with_reducible assumption) | exact K84.rowD_sum)
namespace K84
open DI
variable {n d : Nat} {S R : Store} {Q : D → Store → Prop} {X : Nat → List (List Nat × D) → Store → Prop}
theorem x_holds {rows : List D} {r x : D} (w : Rw rows) (hr : R27 rows r) (hx : pd x = true) : Cl (callF P n (d + 4)) S 29 [.tup rows, r, x] (.bl (holdsB rows x)) := ⟨s_holds w hr hx⟩
theorem x_takes {rows : List D} {x : D} (w : Rw rows) (hx : pd x = true) : Cl (callF P n (d + 5)) S 10 [.tup rows, x] (.bl (holdsB rows x)) := ⟨s_takes w w.web w.pdt hx⟩
theorem x_says {b c : Bool} : Cl (callF P n (d + 1)) S 17 [.bl b, .bl c] (.bl (b == c)) := ⟨by
  have := s_says (n := n) (d := d) (S := S) (x := .bl b) (b := c) rfl (Nat.zero_le _)
  rw [this]
  cases b <;> cases c <;> rfl⟩
theorem r27_non {rows : List D} {r : D} (h : R27 rows r) : r = .non ↔ ¬ ∃ k l m, Good rows k l m := by
  rcases h with ⟨rfl, h⟩ | ⟨k, l, m, g, rfl⟩
  · exact Iff.intro (fun _ ⟨k, l, m, g⟩ => h k l m g) (fun _ => rfl)
  · exact Iff.intro (fun e => nomatch e) (fun e => absurd ⟨k, l, m, g⟩ e)
structure Pls (l : List D) : Prop where
  h : ∀ x, x ∈ l → pd x = true
  hl : l.length ≤ 1000
local macro_rules | `(tactic| wtm_at "lf") => `(tactic| first | (apply x_holds <;> with_reducible assumption) | exact x_says)
theorem Pls.app {l m : List D} (h1 : ∀ x, x ∈ l → DI.pd x = true) (h2 : ∀ x, x ∈ m → DI.pd x = true) : ∀ x, x ∈ l ++ m → DI.pd x = true := fun x hx => by
  rcases List.mem_append.mp hx with h | h
  · exact h1 x h
  · exact h2 x h
theorem x_right_end {rows : List D} {r27 r : D} {tr : List D} {o6 o7 o8 o9 o10 o11 o12 : Option D} {S0 : Store} (w : Rw rows) (h27 : R27 rows r27) (hr : okB r = true) (hd : dep r ≤ 2) (hS : StT R S) (ht : ∀ x, x ∈ tr → DI.pd x = true) (htl : tr.length ≤ 20) (hq : ∀ S1, StT R S1 → Q (.bl true) S1) :
    W (callF P n (d + 5)) n (f30.body.drop 4) [some (.lst 0), some (.tup rows), some r27, some (.tup [.str wTold, r]), some (.int rows.length), some (.fl tr), o6, o7, o8, o9, o10, o11, o12] S { nx := fun _ S1 => (∃ T, StT (R ++ T) S1) ∧ ∀ S2, StT R S2 → Q .non S2, rt := fun v S1 => (∃ T, StT (R ++ T) S1) ∧ noRef S0.length v = true ∧ ∀ S2, StT R S2 → Q v S2, ex := fun c pl S1 => pl = [] ∧ (∃ T, StT (R ++ T) S1) ∧ ∀ S2, StT R S2 → X c [] S2 } := by
  have hlo := w.lo
  have hhi := w.hi
  apply w_forS (l := List.range 12) (g := fun (i : Nat) => .int (i : Int)) (fun i s S => ∃ o6 o7 o8 o9 o10 tr, s = [some (.lst 0), some (.tup rows), some r27, some (.tup [.str wTold, r]), some (.int rows.length), some (.fl tr), o6, o7, o8, o9, o10, o11, o12] ∧ (∀ x, x ∈ tr → DI.pd x = true) ∧ tr.length ≤ 20 + 5 * i ∧ StT R S)
  · wtm_at "ok"
  · exact l_map
  · exact ⟨_, _, _, _, _, tr, rfl, ht, by omega, hS⟩
  · rintro i a s S3 hi ⟨o6, o7, o8, o9, o10, tr, rfl, ht, htl, hS3⟩
    have hi2 := (List.getElem?_eq_some_iff.mp hi).1
    rw [List.length_range] at hi2
    apply w_turn
    · wtm_at "ok"
    wtm_at "st"
    apply e_compN (I := StT R) (G := fun x => ∃ i : Nat, x = .int (i : Int))
    · wtm_at "ok"
    · wtm_at "ok"
    · exact hS3
    · intro x S4 hx hS4
      obtain ⟨b, hb, rfl⟩ := List.mem_map.mp hx
      refine ⟨_, by wtm_at "fr"; exact rfl, ?_⟩
      wtm_at "we"
      exact ⟨_, rfl⟩
    · intro acc S4 hS4 hacc hlen
      obtain ⟨p, q, u, v, rfl⟩ : ∃ p q u v : Nat, acc = [.int (p : Int), .int (q : Int), .int (u : Int), .int (v : Int)] := by
        simp only [List.length_map, List.length_range] at hlen
        match acc, hlen with
        | [a, b, c, e], _ =>
          obtain ⟨p, rfl⟩ := hacc a (by simp)
          obtain ⟨q, rfl⟩ := hacc b (by simp)
          obtain ⟨u, rfl⟩ := hacc c (by simp)
          obtain ⟨v, rfl⟩ := hacc e (by simp)
          exact ⟨p, q, u, v, rfl⟩
      wtm_at "we"
      wtm_at "st"
      exact w_end ⟨_, _, _, _, _, _, rfl, Pls.app ht (pds_mem.mp rfl), by simp; omega, hS4⟩
  · rintro s S3 ⟨o6, o7, o8, o9, o10, tr, rfl, ht, htl, hS3⟩
    rw [List.length_range] at htl
    wtm_at "st"
    apply e_bi
    apply e_seqc (g := fun x => .bl (holdsB rows x == holdsB rows x)) (f1 := fun x => [some (.lst 0), some (.tup rows), some r27, some (.tup [.str wTold, r]), some (.int rows.length), some (.fl tr), o6, o7, o8, o9, o10, o11, some x])
    apply e_bin
    wtm_at "w1"
    apply e_comp (I := StT R) (G := fun x => DI.pd x = true)
    · wtm_at "ok"
    · wtm_at "ok"
    · exact hS3
    · intro x S4 hx hS4
      obtain ⟨b, hb, rfl⟩ := List.mem_map.mp hx
      refine ⟨_, by wtm_at "fr"; exact rfl, ?_⟩
      apply i_nil
      refine And.intro (fun h => nomatch h) fun _ => ?_
      wtm_at "we"
      refine x_bent (d := d + 1) 2 hr hd hS4 fun v S5 hv hS5 => ?_
      wtm_at "we"
      exact hv.1
    · intro acc S4 hS4 hacc hlen
      simp only [List.length_map, List.length_range] at hlen
      have hds := Pls.app ht hacc
      refine ⟨.fl (tr ++ acc), k_addl (by omega), tr ++ acc, l_seql, ⟨by simp; omega⟩, fun d _ => ⟨rfl⟩, fun y hy => ?_, ?_⟩
      · have hy := hds y hy
        have c10 : Cl (callF P n (d + 5)) S4 10 [.tup rows, y] (.bl (holdsB rows y)) := x_takes w hy
        have c29 : Cl (callF P n (d + 5)) S4 29 [.tup rows, r27, y] (.bl (holdsB rows y)) := x_holds (d := d + 1) w h27 hy
        wtm_at "ev"
      · refine ⟨_, k_all, ⟨[], by rw [List.append_nil]; exact hS4⟩, rfl, fun S5 hS5 => ?_⟩
        have : ((tr ++ acc).all fun x => holdsB rows x == holdsB rows x) = true := by simp
        rw [this]
        exact hq _ hS5
theorem x_web_right {rows : List D} (w : Rw rows) (hS : StT R S) (hq : ∀ S1, StT R S1 → Q (.bl true) S1) : WC (callF P n (d + 6)) 30 [.lst 0, .tup rows] S Q X := by
  obtain ⟨r27, h27, c27⟩ := s_web_numbers (n := n) (d := d + 3) (S := S) w
  have c27 : Cl (callF P n (d + 5)) S 27 [.tup rows] r27 := ⟨c27⟩
  obtain ⟨r, hr, c25⟩ := x_told (n := n) (d := d) (S := S) w w.web w.pdt
  obtain ⟨wd, l, rfl, hwd⟩ := hr.tup
  have hpr := okB_pd hr.ok
  have hpw : pd (.str wd) = true := pd_tup.mp hpr _ List.mem_cons_self
  have hll : l.length ≤ 999 := by
    have := hr.ok
    unfold okB at this
    simp at this
    exact this.1
  apply c_eff p30 rfl g30 hS
  wtm_at "st"
  wtm_at "st"
  · intro h
    exfalso
    have e1 : deq (.str wTold) (.str [116, 111, 108, 100]) = true := by decide
    have e2 : deq (.str wd) (.str [119, 101, 98]) = !decide (r27 = .non) := by
      have : deq (.str wd) (.str wWeb) = decide (wd = wWeb) := deq_str
      rw [show ([119, 101, 98] : List Nat) = wWeb from rfl, this, Bool.eq_iff_iff, decide_eq_true_eq, Bool.not_eq_true', decide_eq_false_iff_not, r27_non h27, Classical.not_not]
      exact hwd
    rw [e1, e2, hr.holds] at h
    simp at h
  · intro _
    wtm_at "st"
    have h0 : DI.pd (.tup (.str wd :: l)) = true := hpr
    have hl := pd_tup.mp hpr
    have ht : ∀ x, x ∈ [D.tup (D.str wd :: l), D.fl (D.str wd :: l), D.tup (D.str wd :: (l ++ [D.int 0])), D.tup (D.str wd :: l).dropLast, D.non, D.tup [], D.int 5, D.str [119, 101, 98],
              D.tup [D.str [119, 104, 111, 108, 101]], D.tup [D.str [119, 104, 111, 108, 101], D.int 0],
              D.tup [D.str [119, 101, 98], D.int 2, D.int 0, D.int 2],
              D.tup [D.str [118, 97, 108, 101, 110, 99, 121], D.int 0, D.int rows.length],
              D.tup [D.str [118, 97, 108, 101, 110, 99, 121], D.int 0, D.bl true],
              D.tup [D.str [106, 111, 105, 110, 101, 100], D.tup [D.int 0, D.int 1], D.non]] → DI.pd x = true := by
      intro x hx
      rcases List.mem_cons.mp hx with rfl | hx
      · exact hpr
      rcases List.mem_cons.mp hx with rfl | hx
      · exact pd_fl.mpr hl
      rcases List.mem_cons.mp hx with rfl | hx
      · refine pd_tup.mpr fun y hy => ?_
        rw [← List.cons_append] at hy
        rcases List.mem_append.mp hy with h | h
        · exact hl y h
        · rw [List.mem_singleton.mp h]; rfl
      rcases List.mem_cons.mp hx with rfl | hx
      · exact pd_tup.mpr fun y hy => hl y (List.dropLast_subset _ hy)
      exact pds_mem.mp (by rfl) x hx
    wtm_at "st"
    · intro h
      rcases h27 with ⟨rfl, _⟩ | ⟨k, l', m, g, rfl⟩
      · simp at h
      · wtm_at "st"
        exact x_right_end w (.inr ⟨k, l', m, g, rfl⟩) hr.ok hr.dp hS (Pls.app ht (pds_mem.mp rfl)) (by simp) hq
    · intro h
      exact x_right_end w h27 hr.ok hr.dp hS ht (by simp) hq
end K84
end
section
set_option maxRecDepth 100000
set_option maxHeartbeats 1000000
/-! K84J: the law. -/
open DI
local macro_rules | `(tactic| wtm_at "fr") => `(tactic| simp only [List.getElem?_cons_zero, List.getElem?_cons_succ, List.set_cons_zero, List.set_cons_succ, wipe_cons, wipe_nil, setTg_nm, setTg_tp, setSl_cons, setSl_nil, List.cons_append, List.nil_append, List.map_cons, List.map_nil, List.length_cons, List.length_nil, List.length_map, List.length_range, List.reduceReplicate, Nat.reduceAdd, Nat.reduceSub])
local macro_rules | `(tactic| wtm_at "lf") => `(tactic| first
  | exact k_add | exact k_sub | apply k_mul | apply k_fdiv | apply k_mod | apply k_addt | apply k_addl
  | exact k_eqi | exact k_nei | exact k_lt | exact k_le | exact k_gt | exact k_ge | exact k_is | exact k_isnt | exact k_eqb | exact k_neb | apply k_eqp | apply k_nep
  | exact k_lent | exact k_lenl | exact k_lenk | exact k_inti | exact k_intb | exact k_abs | exact k_tupl | exact k_tupt | exact k_all | exact k_any | apply k_suml | apply k_sumt
  | exact n_map | exact n_nil | apply n_cons | with_reducible exact k_sltn | with_reducible exact k_sltf | with_reducible exact k_slts | with_reducible exact k_sltnl | with_reducible exact k_sltfl | with_reducible exact k_sltm | exact k_slt | exact k_sll | exact k_revt | exact k_revl | with_reducible apply k_ixt | with_reducible apply k_ixtl | with_reducible apply k_ixl | with_reducible apply k_ixll
  | exact a_0 | exact a_1 | exact a_2 | exact a_3 | exact a_4 | (apply a_map; wtm_at "ok") | apply a_rng | apply a_getD
  | apply keys_int | exact keys_nil | (apply StT.cellT; with_reducible assumption) | (apply k_ixc; wtm_at "ok"; wtm_at "ok") | (apply l_seqc; wtm_at "ok") | (apply k_tupc; wtm_at "ok") | (apply k_lenc; wtm_at "ok") | (apply k_rep <;> first | decide | (intro h; cases h; done) | omega) | exact l_seq | exact l_seql | exact l_seqk | exact l_itm | exact l_itml | exact l_lst | exact l_zip | exact l_zipl | exact l_enum | exact l_enuml | exact l_map | exact l_zt | exact l_id
  | (apply y_tup; (conv => lhs; whnf); try exact rfl) | (apply y_fl; (conv => lhs; whnf); try exact rfl) | (apply y_kl; (conv => lhs; whnf); try exact rfl) | (apply y_int; (conv => lhs; whnf); try exact rfl) | (apply y_bl; (conv => lhs; whnf); try exact rfl) | (apply y_str; (conv => lhs; whnf); try exact rfl) | exact y_non | (apply y_one; assumption) | (apply y_two; assumption)
  | (apply m_r; first | omega | decide) | (apply m_l; first | omega | decide) | (apply d_s <;> first | omega | decide))
local macro_rules | `(tactic| wtm_at "e1") => `(tactic| first
  | exact z_con | exact z_var ⟨by wtm_at "fr"; try exact rfl⟩
  | apply z_call | apply z_bin | apply z_cmp | apply z_ix | apply z_bi | apply z_isi | apply z_and | apply z_or | apply z_and1 | apply z_andc | apply z_or1 | apply z_orc
  | apply z_neg | apply z_not | apply z_chn | apply z_in | apply z_nin | apply z_ite | apply z_lset | apply z_sl | exact z_none | apply z_some | apply z_rev | apply z_tup | apply z_lst | apply z_lof | exact z_nil | apply z_cons
  | apply z_comp | apply z_compf | apply z_seq | with_reducible apply z_rng1l | apply z_rng1 | apply z_rng2 | apply z_zip | apply z_enum | with_reducible apply j_rng1l | apply z_inT | apply j_rng1 | (apply j_tup; wtm_at "ok") | (apply j_fl; wtm_at "ok")
  | (refine isP ?_; first
    | wtm_at "lf"
    | ((first | apply Tgs.mk | apply SetS.mk | apply SetTs.mk | apply App.mk); (try wtm_at "fr"); exact rfl)
    | (apply Small.mk; (try wtm_at "fr"); first | omega | (simp only [List.length_append, List.length_take, List.length_drop, List.length_reverse, List.length_dropLast]; omega))
    | with_reducible assumption
    | (show pd (D.str _) = true; decide) | (show dep _ ≤ 64; exact Nat.zero_le _) | (show flatD _ = true; exact rfl) | (show List.all _ flatD = true; exact rfl)
    | (intro h; (try simp only [decide_eq_true_eq, decide_eq_false_iff_not, List.mem_range, Bool.and_eq_true, Bool.not_eq_true', Bool.not_eq_false', not_true_eq_false, not_false_eq_true] at h))
    | omega | (simp only [List.length_cons, List.length_nil, List.length_map, List.length_range, List.length_append, List.length_take, List.length_drop, List.length_reverse, List.length_dropLast]; omega)))
local macro_rules | `(tactic| wtm_at "ev") => `(tactic| focus (repeat wtm_at "e1"))
local macro_rules | `(tactic| wtm_at "st") => `(tactic| first
  | (apply w_ret; wtm_at "ok") | (apply w_ex; wtm_at "ok") | apply loop_cons | apply loop_nil | (apply w_turn; wtm_at "ok") | (apply w_asg; wtm_at "ok"; wtm_at "ok") | (apply w_iff; wtm_at "ok"; wtm_at "ok"; wtm_at "ok") | (apply w_asgT; wtm_at "ok"; wtm_at "ok"; wtm_at "ok") | (apply w_par2; wtm_at "ok"; wtm_at "ok"; wtm_at "ok"; wtm_at "ok") | (apply w_par3; wtm_at "ok"; wtm_at "ok"; wtm_at "ok"; wtm_at "ok"; wtm_at "ok"; wtm_at "ok") | apply w_end | apply w_brk | apply w_cnt | apply w_pass | apply w_retN
  | (refine isP ?_; intro h; (try simp only [decide_eq_true_eq, decide_eq_false_iff_not, Bool.and_eq_true, Bool.not_eq_true', Bool.not_eq_false', not_true_eq_false, not_false_eq_true, reduceCtorEq, Bool.and_false, Bool.false_and, Bool.and_true, Bool.true_and, Bool.or_false, Bool.or_true, Bool.false_or, Bool.true_or, Bool.not_true, Bool.not_false] at h))
  | apply w_retX | apply w_exX | (apply w_raise; wtm_at "ok") | apply w_asgX | (apply w_iffX; wtm_at "ok"; wtm_at "ok") | apply w_asgTX | apply w_par2X | apply w_par3X)
local macro_rules | `(tactic| wtm_at "w1") => `(tactic| first
  | (apply e_pure; wtm_at "ok")
  | (apply e_pures; wtm_at "ok")
  | apply e_call | apply e_nil | apply e_cons | apply e_bin | apply e_cmp | apply e_ix | apply e_bi | apply e_not | apply e_tup | apply e_lst | apply e_new | apply e_newT | apply e_and | apply e_or | apply e_and1 | apply e_or1 | apply e_andc | apply e_orc | apply e_ite | apply i_nil | apply i_one
  | (apply ex_asg; wtm_at "ok"; wtm_at "ok") | (apply sx_pure; wtm_at "ok") | (refine fin_eff (by assumption) ?_ ?_)
  | (refine Exists.intro _ (And.intro rfl (And.intro ?_ ?_)) <;> intro h <;> (try simp only [decide_eq_true_eq, decide_eq_false_iff_not, Bool.and_eq_true, Bool.not_eq_true', Bool.not_eq_false', not_true_eq_false, not_false_eq_true, reduceCtorEq] at h))
  | (refine Exists.intro _ (And.intro rfl ?_))
  | (apply Exists.intro; apply And.intro; wtm_at "ok")
  | (apply And.intro; wtm_at "ok"))
local macro_rules | `(tactic| wtm_at "we") => `(tactic| focus (repeat' wtm_at "w1"))
local macro_rules | `(tactic| wtm_at "ok") => `(tactic| focus ((repeat wtm_at "e1"); done))
local macro_rules | `(tactic| wtm_at "go") => `(tactic| focus (repeat' first | wtm_at "st" | wtm_at "w1"))
local macro_rules | `(tactic| wtm_at "w1") => `(tactic| (refine K84.x_take (by assumption) (by omega) (by omega) ?_; intro v S1 hv1 hS1))
local macro_rules | `(tactic| wtm_at "lf") => `(tactic| first | (apply K84.Rw.mp; with_reducible assumption) | (apply K84.Rw.mpe; with_reducible assumption) | (apply K84.Rw.at0; with_reducible assumption) | (apply K84.Rw.at_; with_reducible assumption; omega) | (apply K84.Rw.sm; with_reducible assumption) | exact K84.rowD_sum)
namespace K84
open DI
variable {n d : Nat} {S R : Store} {Q : D → Store → Prop} {X : Nat → List (List Nat × D) → Store → Prop}
/-! the state at the start -/
theorem x_state {ns : List Int} (hn : ns.length ≤ 63) : ∃ S, StT [] S ∧ callF P n (d + 1) 13 [.kl (ns.map .int)] [] = .ok (.lst 0) S := by
  have key : W (callF P n d) n f13.body [some (.kl (ns.map .int)), none, none, none] [] { rt := fun v S1 => StT [] S1 ∧ v = .lst 0 } := by
    wtm_at "st"
    wtm_at "st"
    apply w_for (l := ns) (g := .int) (fun i s => ∃ (u t : Int) (o : Option D), s = [some (.kl (ns.map .int)), some (.int u), some (.int t), o] ∧ 0 ≤ u ∧ 0 ≤ t)
    · apply z_seq
      · apply z_sl
        · wtm_at "ok"
        · wtm_at "ok"
        · wtm_at "ok"
        · exact ⟨rfl⟩
      · exact l_seql
    · refine ⟨?_⟩
      rw [show (63 : Int) = ((63 : Nat) : Int) from rfl, cut_to, List.take_of_length_le (by simp; exact hn)]
    · exact ⟨0, 1, none, rfl, by decide, by decide⟩
    · rintro i a s hi ⟨u, t, o, rfl, hu, ht⟩
      apply w_turn
      · wtm_at "ok"
      wtm_at "st"
      wtm_at "st"
      refine w_end ⟨rfl, _, _, _, rfl, ?_, ?_⟩
      · split <;> omega
      · exact Int.fmod_nonneg_of_pos _ (by decide)
    · rintro s ⟨u, t, o, rfl, hu, ht⟩
      wtm_at "st"
      wtm_at "we"
      exact ⟨⟨u, t, hu, ht, rfl⟩, rfl⟩
  have key := key.h
  rw [call_at p13 rfl]
  show ∃ S, StT [] S ∧ fin [] true (execs (callF P n d) n f13.body [some (.kl (ns.map .int)), none, none, none] []) = .ok (.lst 0) S
  cases e : execs (callF P n d) n f13.body [some (.kl (ns.map .int)), none, none, none] [] with
  | rt v S1 =>
    rw [e] at key
    obtain ⟨h1, h2⟩ := key
    have h2 : v = .lst 0 := h2
    subst h2
    exact ⟨S1, h1, rfl⟩
  | nx s S1 => rw [e] at key; exact key.elim
  | bk s S1 => rw [e] at key; exact key.elim
  | ct s S1 => rw [e] at key; exact key.elim
  | ex c pl s S1 => rw [e] at key; exact key.elim
  | no => rw [e] at key; exact key.elim
/-! tables that are changed -/
structure Mat (R : Store) (q v : Nat) (f : Nat → Nat → Int) : Prop where
  top : R[q + v]? = some (.lst ((List.range v).map fun k => .lst (q + 1 + k)))
  row : ∀ a, a < v → R[q + a]? = some (.lst ((List.range v).map fun b => .int (f a b)))
def updM (f : Nat → Nat → Int) (a b : Nat) (x : Int) : Nat → Nat → Int := fun i j => if i = a ∧ j = b then x else f i j
theorem Mat.put {q v : Nat} {f : Nat → Nat → Int} {a b : Nat} {x : Int} (m : Mat R q v f) (ha : a < v) (hb : b < v) : Mat (R.set (q + a) (.lst (((List.range v).map fun b => D.int (f a b)).set b (.int x)))) q v (updM f a b x) where
  top := by rw [List.getElem?_set_ne (by omega)]; exact m.top
  row := fun i hi => by
    by_cases e : i = a
    · subst e
      have : q + i < R.length := (List.getElem?_eq_some_iff.mp (m.row i hi)).1
      rw [List.getElem?_set_self this]
      congr 2
      apply List.ext_getElem?
      intro j
      by_cases hj : j < v
      · by_cases e2 : j = b
        · subst e2
          rw [List.getElem?_set_self (by simpa using hj), List.getElem?_map, List.getElem?_range hj]
          simp [updM]
        · rw [List.getElem?_set_ne (fun h => e2 h.symm), List.getElem?_map, List.getElem?_range hj, List.getElem?_map, List.getElem?_range hj]
          simp [updM, e2]
      · rw [List.getElem?_eq_none (by simpa using hj), List.getElem?_eq_none (by simpa using hj)]
    · rw [List.getElem?_set_ne (by omega), m.row i hi]
      congr 3
      funext j
      simp [updM, e]
theorem Mat.tc {q v : Nat} {f : Nat → Nat → Int} (h : StT R S) (m : Mat R q v f) : CellL S (q + 1 + v) ((List.range v).map fun k => .lst (q + 1 + k)) := by
  have := h.cell m.top
  rw [show q + 1 + v = q + v + 1 by omega]
  exact this
theorem Mat.rc {q v : Nat} {f : Nat → Nat → Int} {a : Nat} (h : StT R S) (m : Mat R q v f) (ha : a < v) : CellL S (q + 1 + a) ((List.range v).map fun b => .int (f a b)) := by
  have := h.cell (m.row a ha)
  rw [show q + 1 + a = q + a + 1 by omega]
  exact this
/-- a table of bits is a web -/
def matD (v : Nat) (f : Nat → Nat → Int) : List D := (List.range v).map fun a => .tup ((List.range v).map fun b => .int (f a b))
theorem mat_rw {v : Nat} {f : Nat → Nat → Int} (h1 : 2 ≤ v) (h2 : v ≤ 64) (hb : ∀ a b, a < v → b < v → f a b = 0 ∨ f a b = 1) (hs : ∀ a b, a < v → b < v → f a b = f b a) (hd : ∀ a, a < v → f a a = 0) : Rw (matD v f) := by
  have e : matD v f = tabD v fun a b => decide (a < v) && decide (b < v) && decide (f a b = 1) := by
    unfold matD tabD
    refine List.map_congr_left fun a ha => ?_
    congr 1
    refine List.map_congr_left fun b hb' => ?_
    have ha := List.mem_range.mp ha
    have hb' := List.mem_range.mp hb'
    rcases hb a b ha hb' with h | h <;> simp [h, ha, hb']
  rw [e]
  refine tab_rw h1 h2 (fun a b => ?_) fun a => ?_
  · by_cases ha : a < v <;> by_cases hb : b < v <;> simp [ha, hb]
    rw [hs a b ha hb]
  · by_cases ha : a < v <;> simp [ha]
    rw [hd a ha]; decide
theorem rows_mat {rows : List D} (w : Rw rows) : rows = (((List.range rows.length).map fun a => (List.range rows.length).map fun b => D.int (ent rows a b))).map .tup := by
  rw [List.map_map]
  exact w.rows
/-- one pair changed -/
theorem flip_rw {rows : List D} (w : Rw rows) {a b : Nat} (ha : a < rows.length) (hb : b < rows.length) (hab : a ≠ b) {x : Int} (hx : x = 0 ∨ x = 1) : Rw (matD rows.length (updM (updM (ent rows) a b x) b a x)) := by
  refine mat_rw w.lo w.hi (fun i j hi hj => ?_) (fun i j hi hj => ?_) fun i hi => ?_
  · unfold updM
    split
    · exact hx
    · split
      · exact hx
      · exact w.bit hi hj
  · unfold updM
    by_cases h1 : i = b ∧ j = a
    · obtain ⟨rfl, rfl⟩ := h1
      simp [hab, Ne.symm hab]
    · by_cases h2 : i = a ∧ j = b
      · obtain ⟨rfl, rfl⟩ := h2
        simp [hab, Ne.symm hab]
      · have h3 : ¬ (j = b ∧ i = a) := fun h => h2 ⟨h.2, h.1⟩
        have h4 : ¬ (j = a ∧ i = b) := fun h => h1 ⟨h.2, h.1⟩
        simp [h1, h2, h3, h4]
        exact w.sym i j hi hj
  · unfold updM
    have h1 : ¬ (i = b ∧ i = a) := fun h => hab (h.2.symm.trans h.1)
    have h2 : ¬ (i = a ∧ i = b) := fun h => hab (h.1.symm.trans h.2)
    rw [if_neg h1, if_neg h2]
    exact w.dia i hi
theorem mat_same {rows : List D} (w : Rw rows) : Rw (matD rows.length (ent rows)) := mat_rw w.lo w.hi (fun _ _ h1 h2 => w.bit h1 h2) w.sym w.dia
local macro_rules | `(tactic| wtm_at "lf") => `(tactic| first | (apply Mat.tc; with_reducible assumption; with_reducible assumption) | (apply Mat.rc; with_reducible assumption; with_reducible assumption; omega))
theorem x_turn_end {z o2 o4 o5 o7 o8 o9 : Option D} {k : Kt} {q : Nat} {rows : List D} {f : Nat → Nat → Int} (w : Rw rows) (hS : StT R S) (hm : Mat R q rows.length f) (w2 : Rw (matD rows.length f)) (hq : ∀ R S o3 o4 o5 o6 o7, StT R S → k.nx [z, some (.lst 0), o2, o3, o4, o5, o6, o7, o8, o9] S) :
    W (callF P n (d + 7)) n [.iff (.or [(.not (.call 30 [(.var 1), (.var 3)])), (.not (.call 30 [(.var 1), (.bi .tuple (.cmph false (.bi .tuple (.var 7)) (.nm 7) (.seq (.var 6)) [] [7]))]))]) [.ret (.con (.bl false))] []] [z, some (.lst 0), o2, some (.tup rows), o4, o5, some (.lst (q + 1 + rows.length)), o7, o8, o9] S k := by
  have hhi := w.hi
  wtm_at "st"
  wtm_at "we"
  refine x_web_right (d := d + 1) w hS fun S1 hS1 => ?_
  wtm_at "we"
  refine x_web_right (d := d + 1) w2 hS1 fun S2 hS2 => ?_
  wtm_at "we"
  exact w_end (hq _ _ _ _ _ _ _ hS2)
/-- the first turns -/
theorem x_turn {z o2 o3 o4 o5 o6 o7 o8 o9 : Option D} {k : Kt} (hS : StT R S) (hq : ∀ R S o3 o4 o5 o6 o7, StT R S → k.nx [z, some (.lst 0), o2, o3, o4, o5, o6, o7, o8, o9] S) :
    ∀ {bd : List St}, f31.body[1]? = some (.for (.nm 2) (.rng1 (.con (.int 4))) bd) → W (callF P n (d + 7)) n bd [z, some (.lst 0), o2, o3, o4, o5, o6, o7, o8, o9] S k := by
  intro bd hbd
  cases hbd
  wtm_at "st"
  wtm_at "we"
  refine x_law_web (d := d + 5) hS fun rows w S1 hS1 => ?_
  have hlo := w.lo
  have hhi := w.hi
  wtm_at "st"
  wtm_at "we"
  rename_i a S2 ha hS2 b S3 hb hS3
  have ha : a < rows.length := by omega
  have hb : b < rows.length := by omega
  have hr : Pv (callF P n (d + 7)) S3 (.var 3) [z, some (.lst 0), o2, some (.tup rows), some (.int (a : Int)), some (.int (b : Int)), o6, o7, o8, o9] (.tup ((((List.range rows.length).map fun a => (List.range rows.length).map fun b => D.int (ent rows a b))).map .tup)) := by
    rw [← rows_mat w]
    wtm_at "ok"
  wtm_at "fr"
  apply w_asgX
  refine e_lists (l := (List.range rows.length).map fun a => (List.range rows.length).map fun b => D.int (ent rows a b)) (j_tup hr) ⟨by simp; omega⟩ (by simp) (fun r hr => ?_) ?_
  · obtain ⟨i, _, rfl⟩ := List.mem_map.mp hr
    exact ⟨by simp; omega⟩
  have hm : Mat (R ++ (((List.range rows.length).map fun a => Cell.lst ((List.range rows.length).map fun b => D.int (ent rows a b))) ++ [.lst ((List.range rows.length).map fun k => .lst (R.length + 1 + k))])) R.length rows.length (ent rows) := by
    refine ⟨?_, fun i hi => ?_⟩
    · rw [List.getElem?_append_right (by omega), List.getElem?_append_right (by simp)]
      simp
    · rw [List.getElem?_append_right (by omega), List.getElem?_append_left (by simp; omega)]
      simp [hi]
  have hS4 := hS3.app (T := (((List.range rows.length).map fun a => Cell.lst ((List.range rows.length).map fun b => D.int (ent rows a b))) ++ [.lst ((List.range rows.length).map fun k => .lst (R.length + 1 + k))]))
  rw [List.map_map, List.length_map, List.length_range, hS3.len]
  generalize R ++ (((List.range rows.length).map fun a => Cell.lst ((List.range rows.length).map fun b => D.int (ent rows a b))) ++ [.lst ((List.range rows.length).map fun k => .lst (R.length + 1 + k))]) = R4 at hm hS4
  have e4 : (S3 ++ (((List.range rows.length).map fun a => Cell.lst ((List.range rows.length).map fun b => D.int (ent rows a b))) ++ [.lst ((List.range rows.length).map fun k => .lst (R.length + 1 + k))])) = (S3 ++ (((List.range rows.length).map (Cell.lst ∘ fun a => ((List.range rows.length).map fun b => D.int (ent rows a b)))) ++ [.lst ((List.range rows.length).map fun k => .lst (R.length + 1 + k))])) := rfl
  rw [e4] at hS4
  generalize S3 ++ (((List.range rows.length).map (Cell.lst ∘ fun a => ((List.range rows.length).map fun b => D.int (ent rows a b)))) ++ [.lst ((List.range rows.length).map fun k => .lst (R.length + 1 + k))]) = S4 at hS4
  generalize R.length = q at hm
  wtm_at "fr"
  wtm_at "st"
  · intro h
    have hab : a ≠ b := fun e => by subst e; simp at h
    have c1 := Mat.rc hS4 hm ha
    have hx : 1 - ent rows a b = 0 ∨ 1 - ent rows a b = 1 := by rcases w.bit ha hb with e | e <;> omega
    have w2 := flip_rw w ha hb hab hx
    have m2 := hm.put (x := 1 - ent rows a b) ha hb
    have hS5 := hS4.put (k := q + a) (c := .lst (((List.range rows.length).map fun b => D.int (ent rows a b)).set b (.int (1 - ent rows a b))))
    rw [show q + a + 1 = q + 1 + a by omega] at hS5
    generalize hx2 : 1 - ent rows a b = x at *
    apply w_set (p := q + 1 + a) (j := b) (l := (List.range rows.length).map fun b => D.int (ent rows a b)) (v := .int x)
    · rw [← hx2]
      wtm_at "ok"
    · wtm_at "ok"
    · wtm_at "ok"
    · exact c1.h
    · simpa using hb
    have e1 : updM (ent rows) a b x a b = x := by simp [updM]
    generalize S4.set (q + 1 + a) (.lst (((List.range rows.length).map fun b => D.int (ent rows a b)).set b (.int x))) = S5 at hS5
    generalize R4.set (q + a) (.lst (((List.range rows.length).map fun b => D.int (ent rows a b)).set b (.int x))) = R5 at hS5 m2
    have c2 := Mat.rc hS5 m2 hb
    have m3 := m2.put (x := x) hb ha
    have hS6 := hS5.put (k := q + b) (c := .lst (((List.range rows.length).map fun j => D.int (updM (ent rows) a b x b j)).set a (.int x)))
    rw [show q + b + 1 = q + 1 + b by omega] at hS6
    apply w_set (p := q + 1 + b) (j := a) (l := (List.range rows.length).map fun j => D.int (updM (ent rows) a b x b j)) (v := .int x)
    · have : Pv (callF P n (d + 7)) S5 (.ix (.ix (.var 6) (.var 4)) (.var 5)) [z, some (.lst 0), o2, some (.tup rows), some (.int (a : Int)), some (.int (b : Int)), some (.lst (q + 1 + rows.length)), o7, o8, o9] (.int (updM (ent rows) a b x a b)) := by
        wtm_at "ok"
      rw [e1] at this
      exact this
    · wtm_at "ok"
    · wtm_at "ok"
    · exact c2.h
    · simpa using ha
    exact x_turn_end w hS6 m3 w2 hq
  · intro h
    exact x_turn_end w hS4 hm (mat_same w) hq
theorem PdEach.cons {x : D} {l : List D} (h : DI.pd x = true) (h2 : PdEach l) : PdEach (x :: l) := ⟨fun y hy => by
  rcases List.mem_cons.mp hy with rfl | hy
  · exact h
  · exact h2.h y hy⟩
local macro_rules | `(tactic| wtm_at "lf") => `(tactic| first | (apply x_law_is_web; with_reducible assumption) | (apply x_told_bad <;> with_reducible assumption))
/-- the last loop -/
theorem x_near {o0 o2 o3 o4 o5 o6 o7 o9 : Option D} {k : Kt} {near : List D} (hn : ∀ x, x ∈ near → DI.pd x = true) (hq : k.rt (.bl true) S) :
    W (callF P n (d + 5)) n (f31.body.drop 5) [o0, some (.lst 0), o2, o3, o4, o5, o6, o7, some (.fl near), o9] S k := by
  apply w_for (g := fun d => d) (l := near) (fun i s => ∃ o9, s = [o0, some (.lst 0), o2, o3, o4, o5, o6, o7, some (.fl near), o9])
  · wtm_at "ok"
  · exact l_id
  · exact ⟨_, rfl⟩
  · rintro i x s hi ⟨o9, rfl⟩
    have hx := hn x (List.mem_of_getElem? hi)
    apply w_turn
    · wtm_at "ok"
    have e1 : deq (.str wMal) (.str [109, 97, 108, 102, 111, 114, 109, 101, 100]) = true := by decide
    wtm_at "st"
    · intro h
      rw [e1] at h
      simp at h
    · intro _
      exact w_end ⟨rfl, _, rfl⟩
  · rintro s ⟨o9, rfl⟩
    wtm_at "st"
    exact hq
theorem rw_lit {rows : List D} (hp : DI.pd (.tup rows) = true) (h : webB (.tup rows) = true) : Rw rows := by
  obtain ⟨r, e, w⟩ := rw_of hp h
  cases e
  exact w
theorem x_law {ns : List Int} (hn : ns.length ≤ 63) : W (callF P n 99) n f31.body [some (.kl (ns.map .int)), none, none, none, none, none, none, none, none, none] [] { rt := fun v _ => v = .bl true } := by
  obtain ⟨S0, hS0, e0⟩ := x_state (n := n) (d := 98) hn
  wtm_at "st"
  wtm_at "we"
  refine ⟨wpX_ok e0 ?_⟩
  wtm_at "fr"
  apply w_forS (l := List.range 4) (g := fun (i : Nat) => .int (i : Int)) (fun i s S => ∃ R o2 o3 o4 o5 o6 o7, s = [some (.kl (ns.map .int)), some (.lst 0), o2, o3, o4, o5, o6, o7, none, none] ∧ StT R S)
  · wtm_at "ok"
  · exact l_map
  · exact ⟨_, _, _, _, _, _, _, rfl, hS0⟩
  · rintro i a s S hi ⟨R, o2, o3, o4, o5, o6, o7, rfl, hS⟩
    apply w_turn
    · wtm_at "ok"
    refine x_turn (d := 92) hS ?_ rfl
    intro R S o3 o4 o5 o6 o7 hS
    exact ⟨R, _, _, _, _, _, _, rfl, hS⟩
  · rintro s S ⟨R, o2, o3, o4, o5, o6, o7, rfl, hS⟩
    apply w_loop
    · wtm_at "ok"
    have w1 : Rw [D.tup [.int 0, .int 1], .tup [.int 1, .int 0]] := rw_lit (by decide) (by decide)
    have w2 : Rw [D.tup [.int 0, .int 0], .tup [.int 0, .int 0]] := rw_lit (by decide) (by decide)
    have w3 : Rw [D.tup [.int 0, .int 1, .int 1], .tup [.int 1, .int 0, .int 1], .tup [.int 1, .int 1, .int 0]] := rw_lit (by decide) (by decide)
    have w4 : Rw [D.tup [.int 0, .int 0, .int 1], .tup [.int 0, .int 0, .int 1], .tup [.int 1, .int 1, .int 0]] := rw_lit (by decide) (by decide)
    wtm_at "go"
    refine x_web_right (d := 93) w1 hS fun S hS => ?_
    wtm_at "go"
    refine x_web_right (d := 93) w2 hS fun S hS => ?_
    wtm_at "go"
    refine x_web_right (d := 93) w3 hS fun S hS => ?_
    wtm_at "go"
    refine x_web_right (d := 93) w4 hS fun S hS => ?_
    wtm_at "go"
    refine x_law_web (d := 97) hS fun rows w S hS => ?_
    have hlo := w.lo
    have hhi := w.hi
    wtm_at "st"
    wtm_at "we"
    refine x_near (d := 94) ?_ rfl
    have hp := w.pd
    intro x hx
    rcases List.mem_cons.mp hx with rfl | hx
    · rfl
    rcases List.mem_cons.mp hx with rfl | hx
    · rfl
    rcases List.mem_cons.mp hx with rfl | hx
    · rfl
    rcases List.mem_cons.mp hx with rfl | hx
    · rfl
    rcases List.mem_cons.mp hx with rfl | hx
    · exact pd_fl.mpr hp
    rcases List.mem_cons.mp hx with rfl | hx
    · exact pd_tup.mpr fun y hy => hp y (List.dropLast_subset _ hy)
    rcases List.mem_cons.mp hx with rfl | hx
    · exact pd_tup.mpr fun y hy => hp y (List.mem_reverse.mp hy)
    rcases List.mem_cons.mp hx with rfl | hx
    · rfl
    rcases List.mem_cons.mp hx with rfl | hx
    · rfl
    rcases List.mem_cons.mp hx with rfl | hx
    · rfl
    rcases List.mem_cons.mp hx with rfl | hx
    · rfl
    rcases List.mem_cons.mp hx with rfl | hx
    · rfl
    rcases List.mem_cons.mp hx with rfl | hx
    · have rep : ∀ (k : Nat) (x : D), DI.pd x = true → DI.pd (.tup (List.replicate k [x]).flatten) = true := fun k x hx => pd_tup.mpr fun y hy => by
        obtain ⟨l, h1, h2⟩ := List.mem_flatten.mp hy
        rw [List.eq_of_mem_replicate h1] at h2
        rw [List.mem_singleton.mp h2]
        exact hx
      exact rep _ _ (rep _ _ rfl)
    rcases List.mem_cons.mp hx with rfl | hx
    · rfl
    cases hx
theorem plain : ∀ ns : List Int, ns.length ≤ 63 → ∃ n S, callF theLaw.fns n 100 31 [.kl (ns.map .int)] [] = .ok (.bl true) S := by
  intro ns hn
  refine ⟨0, [], ?_⟩
  have key := (x_law (n := 0) hn).h
  rw [call_at p31 rfl]
  show fin [] false (execs (callF P 0 99) 0 f31.body [some (.kl (ns.map .int)), none, none, none, none, none, none, none, none, none] []) = .ok (.bl true) []
  cases e : execs (callF P 0 99) 0 f31.body [some (.kl (ns.map .int)), none, none, none, none, none, none, none, none, none] [] with
  | rt v S1 =>
    rw [e] at key
    have h2 : v = .bl true := key
    subst h2
    have := cut_app (S := []) (X := S1) (d := .bl true) rfl
    exact this
  | nx s S1 => rw [e] at key; exact key.elim
  | bk s S1 => rw [e] at key; exact key.elim
  | ct s S1 => rw [e] at key; exact key.elim
  | ex c pl s S1 => rw [e] at key; exact key.elim
  | no => rw [e] at key; exact key.elim
end K84
end
section
set_option maxRecDepth 100000
set_option maxHeartbeats 0
namespace K84
open PySem PySem.Spec PyProof.Rows L2 DI
abbrev R : PySem.W.OpenRow := PySem.W.OpenLaw.row PySem.Challenge.rw_dualroads_k84_whole_papers_of_webs
abbrev hk : PySem.W.Hook := He.hookE 4 theLaw.fa theLaw.fn
def ob (s : PySem.W.SharedT) : He.Al := He.obsG 4 theLaw.fa theLaw.fn (HandSHeadRun.getT s)
theorem ob_eq (s : PySem.W.SharedT) : ob s = hk.obs s.abs := He.obsG_eq (HandSHeadRun.getT_eq s)
def loose : List PySem.Str := (["Fault", "Malformed", "is_integer", "LEAST_POINTS", "MOST_POINTS", "is_web", "check_web", "common_of", "numbers_of", "is_paper", "is_point", "is_pair"] : List PySem.Str) ++ (["are_unlike", "is_valency_paper", "takes_web", "unlike_pairs", "web_paper", "_law_state", "_law_take", "_law_odd", "_law_honest", "_law_says", "_law_is_whole", "_law_same"] : List PySem.Str) ++ (["_law_bent", "_law_has_form", "_law_picks", "_law_web", "_law_is_web", "_law_told", "_law_shared", "_law_web_numbers", "_law_is_pair", "_law_holds", "_law_web_right"] : List PySem.Str)
theorem run (w : World) : HandSHeadRun.RunEq R (PySem.W.view R.prog [41]) hk ob 4000 loose w := by
  intro os
  kernel_rfl
end K84
end
set_option maxRecDepth 100000
set_option maxHeartbeats 0
open PySem PySem.W PySem.Calls PyProof.Rows
theorem PySem.Challenge.cw_dualroads_k84_whole_papers_of_webs_holds : PySem.Challenge.rw_dualroads_k84_whole_papers_of_webs.Holds := by
  w_on; o_law
  refine HandSHeadRun.head_any (r := K84.R) (q := view K84.R.prog [41]) (H := K84.hk) (ob := K84.ob) (M := 4000) (loose := K84.loose) (d := HandSHeadRun.topDef K84.R.prog 41) (kwd := []) K84.ob_eq
    (by kernel_rfl) (fun s => by kernel_rfl) K84.run (by kernel_rfl) (by kernel_rfl) (by kernel_rfl) (by rfl) (by first | assumption | decide +kernel) (by decide +kernel) ⟨rfl, rfl, rfl, rfl, rfl, by decide +kernel⟩ ?hw ?hc
  case hw => w_witness2
  case hc =>
    exact DI.law_end (l := PySem.Challenge.rw_dualroads_k84_whole_papers_of_webs) (L := K84.theLaw) (li := 31) (lv := 100) (d := K84.d31) rfl (by kernel_rfl) ⟨rfl, by decide, by decide⟩ (fun w h y => y) K84.law_ok rfl (by kernel_rfl) rfl K84.plain
