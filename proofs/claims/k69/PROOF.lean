import PyProof.Rows.All
import Wide.All
import OpenK.AllK
import Wide.FinOn
import HandS.ForMost
import HandS.Lambda
import HandS.TryMany
import HandS.IsInst
import HandS.Gcd
import HandS.ExcField
import HandS.Style
import HandS.TupAny
import HandS.TupMul
import HandS.Deep
import HandS.Wide
import HandS.Flow
import KE.DataMinMax
import KE.GoesEnum
import KE.GoesZip
import HandS.Iter
import HandS.NoneIn
import KE.KDflt
import HandS.Defaults
import HandS.Exc
import KE.KExcSuper
import HandS.ExcSuper
import HandS.EndTab
import KE.KNestM
import PySem.Challenge.RW_onepool_k69_whole_the_most_a_keeper_lose
set_option Elab.async false
set_option linter.all false
set_option maxRecDepth 100000
/-! PD: values as trees, a store of the mutable things, a small deep syntax, and what it comes to (a calculus of wishes). No heap of the model in sight. -/
namespace PD

/-- a value: a tuple is a tree; a list, a dict, an instance stands at an address of the store; fls: a list that nobody writes; fn: a def or a class of the module, by its name -/
inductive D where
  | non | bl (b : Bool) | int (i : Int) | str (s : List Nat) | tup (xs : List D) | fls (xs : List D) | ref (a : Nat) | ty (n : String) | fn (x : String)
inductive O where
  | lst (xs : List D) | dct (kvs : List (D × D)) | ins (C : String) (fs : List (String × D))
abbrev Sto := Nat → Option O
def sup (S : Sto) (a : Nat) (o : O) : Sto := fun b => if b = a then some o else S b

inductive Bo where
  | add | sub | mul | fdiv | mod | pow | band | bor | shl | shr
inductive Co where
  | eq | ne | lt | le | gt | ge | is | isnot | inn | notin
inductive Bi where
  | len | abs | int | str | tuple | list | isinstance | all | any | sum | max | min | sorted | gcd | bool
inductive Mt where
  | append | pop | pop0 | insert | remove | index | count | join | partition | split | isdigit | replace | get
inductive Tg where
  | n (i : Nat) | t (ts : List Tg)
inductive Ex where
  | var (i : Nat)
  | non | bl (b : Bool) | int (i : Int) | str (s : List Nat)
  | gfn (x : String) | gc (x : String) (d : D) | ty (x : String)
  | tup (es : List Ex) | lst (es : List Ex)
  | bin (o : Bo) (a b : Ex) | neg (a : Ex)
  | cmp (o : Co) (a b : Ex) | chain (o o' : Co) (a b c : Ex)
  | not (a : Ex) | and (a b : Ex) | or (a b : Ex)
  | ite (t a b : Ex)
  | idx (a i : Ex) | slc (a : Ex) (lo hi : List Ex)
  | fld (a : Ex) (f : String) | efld (i : Nat) (f : String)
  | call (f : String) (es : List Ex) (kws : List String) (dfl : List D)
  | cloc (i : Nat) (es : List Ex)
  | blt (b : Bi) (es : List Ex)
  | meth (a : Ex) (m : Mt) (es : List Ex)
  | comp (elt : Ex) (tg : Tg) (it : Ex) (ifs : List Ex) (own : List Nat)
  -- arguments alone
  | lam (ps fr : List String) (b : Ex) (caps : List Nat) (dfl : List Ex) | av (i : Nat)
  -- what a loop walks
  | ival (e : Ex) | irng (es : List Ex) | ienum (e : Ex) | izip (es : List Ex) | irev (e : Ex)

/-- what a slot may hold: a value, a lambda with what it captured and its defaults, a caught error -/
inductive AV where
  | d (x : D) | clo (ps fr : List String) (b : Ex) (caps : List AV) (dfl : List D) | exc (x : String) (fs : List (String × D))
def canCall : AV → Prop
  | .clo .. => True
  | .d (.fn _) => True
  | _ => False
def notX : AV → Prop
  | .exc _ _ => False
  | _ => True
abbrev Env := List (Option AV)
abbrev QV := D → Sto → Prop
abbrev QX := String → List (String × D) → Sto → Prop
/-- a call of a value with arguments -/
abbrev CallT := AV → List AV → Sto → QV → QX → Prop

/-! ### values -/
def mulOk (i j : Int) : Prop := i.natAbs < 2 ^ 64 ∨ j.natAbs < 2 ^ 64 ∨ ∃ m n, i.natAbs < 2 ^ m ∧ j.natAbs < 2 ^ n ∧ m + n ≤ 134000000
abbrev Line : Nat := 16777216
/-- the truth of a value -/
def tru (S : Sto) : D → Option Bool
  | .non => some false
  | .bl b => some b
  | .int i => some (i != 0)
  | .str s => if s.length ≤ Line then some (!s.isEmpty) else none
  | .tup xs => some (!xs.isEmpty)
  | .fls xs => some (!xs.isEmpty)
  | .ref a => match S a with
    | some (.lst xs) => some (!xs.isEmpty)
    | some (.dct kvs) => some (!kvs.isEmpty)
    | _ => none
  | _ => none
mutual
/-- plain data of a depth -/
def dat : Nat → D → Bool
  | _, .non => true
  | _, .bl _ => true
  | _, .int _ => true
  | _, .str s => s.all (· < 1114112)
  | n + 1, .tup xs => dats n xs
  | _, _ => false
def dats : Nat → List D → Bool
  | _, [] => true
  | n, x :: xs => dat n x && dats n xs
end
mutual
/-- equality of plain data -/
def eqd : D → D → Bool
  | .non, .non => true
  | .bl a, .bl b => a == b
  | .bl a, .int j => (if a then 1 else 0) == j
  | .int i, .bl b => i == (if b then 1 else 0)
  | .int i, .int j => i == j
  | .str x, .str y => x == y
  | .tup xs, .tup ys => eqds xs ys
  | _, _ => false
def eqds : List D → List D → Bool
  | [], [] => true
  | x :: xs, y :: ys => eqd x y && eqds xs ys
  | _, _ => false
end
def eqW (S : Sto) (x y : D) (Q : Bool → Prop) : Prop :=
  match x, y with
  | .int i, .int j => Q (decide (i = j))
  | .str i, .str j => Q (decide (i = j))
  | .bl i, .bl j => Q (decide (i = j))
  | .ref a, .ref b => match S a, S b with
    | some (.lst xs), some (.lst ys) => dats 40 xs = true ∧ dats 40 ys = true ∧ Q (eqds xs ys)
    | _, _ => False
  | x, y => dat 40 x = true ∧ dat 40 y = true ∧ Q (eqd x y)
def isNon : D → Bool
  | .non => true
  | _ => false
def isBl (b : Bool) : D → Bool
  | .bl c => c == b
  | _ => false
def isW (x y : D) (Q : Bool → Prop) : Prop :=
  match y with
  | .non => Q (isNon x)
  | .bl b => Q (isBl b x)
  | _ => False
def inW (S : Sto) (x y : D) (Q : Bool → Prop) : Prop :=
  match y with
  | .str t => match x with
    | .str [c] => Q (decide (c ∈ t))
    | _ => False
  | .tup ys => dat 40 x = true ∧ dats 40 ys = true ∧ Q (ys.any fun z => eqd z x)
  | .ref b => match S b with
    | some (.lst ys) => dat 40 x = true ∧ dats 40 ys = true ∧ Q (ys.any fun z => eqd z x)
    | _ => False
  | _ => False
def cmpW (S : Sto) (o : Co) (x y : D) (Q : Bool → Prop) : Prop :=
  match o with
  | .eq => eqW S x y Q
  | .ne => eqW S x y fun b => Q (!b)
  | .is => isW x y Q
  | .isnot => isW x y fun b => Q (!b)
  | .inn => inW S x y Q
  | .notin => inW S x y fun b => Q (!b)
  | .lt => match x, y with
    | .int i, .int j => Q (decide (i < j))
    | .str i, .str j => Q (decide (i < j))
    | _, _ => False
  | .le => match x, y with
    | .int i, .int j => Q (decide (i ≤ j))
    | .str i, .str j => Q (!decide (j < i))
    | _, _ => False
  | .gt => match x, y with
    | .int i, .int j => Q (decide (j < i))
    | .str i, .str j => Q (decide (j < i))
    | _, _ => False
  | .ge => match x, y with
    | .int i, .int j => Q (decide (j ≤ i))
    | .str i, .str j => Q (!decide (i < j))
    | _, _ => False
def rep {α : Type} (n : Int) (xs : List α) : List α := (List.replicate n.toNat xs).flatten
def binW (S : Sto) (o : Bo) (x y : D) (Q : QV) : Prop :=
  match o, x, y with
  | .add, .int i, .int j => Q (.int (i + j)) S
  | .add, .str i, .str j => i.length + j.length ≤ Line ∧ Q (.str (i ++ j)) S
  | .add, .tup i, .tup j => i.length + j.length ≤ Line ∧ Q (.tup (i ++ j)) S
  | .add, .ref a, .ref b => match S a, S b with
    | some (.lst i), some (.lst j) => i.length + j.length ≤ Line ∧ ∀ p, S p = none → Q (.ref p) (sup S p (.lst (i ++ j)))
    | _, _ => False
  | .sub, .int i, .int j => Q (.int (i - j)) S
  | .mul, .int i, .int j => mulOk i j ∧ Q (.int (i * j)) S
  | .mul, .str s, .int n => n < 2 ^ 62 ∧ -(2 ^ 62) ≤ n ∧ s.length * n.toNat ≤ Line ∧ Q (.str (rep n s)) S
  | .mul, .tup s, .int n => s ≠ [] ∧ 2 ≤ n ∧ n ≤ 1000 ∧ s.length ≤ 1000 ∧ Q (.tup (rep n s)) S
  | .mul, .ref a, .int n => match S a with
    | some (.lst s) => -(2 ^ 63) ≤ n ∧ n < 2 ^ 63 ∧ s.length * n.toNat ≤ Line ∧ ∀ p, S p = none → Q (.ref p) (sup S p (.lst (rep n s)))
    | _ => False
  | .fdiv, .int i, .int j => j ≠ 0 ∧ j.natAbs < 2 ^ 9000 ∧ Q (.int (i.fdiv j)) S
  | .mod, .int i, .int j => j ≠ 0 ∧ Q (.int (i.fmod j)) S
  | .pow, .int i, .int j => 0 ≤ j ∧ j ≤ 1000000 ∧ i.natAbs < 2 ^ 64 ∧ Q (.int (i ^ j.toNat)) S
  | _, _, _ => False
/-- what is walked in a value, and what must stay while it is -/
def itemsOf (S : Sto) : D → Option (List D)
  | .tup xs => some xs
  | .fls xs => some xs
  | .ref a => match S a with | some (.lst xs) => some xs | _ => none
  | .str s => some (s.map fun c => .str [c])
  | _ => none
def stays (S : Sto) (d : D) (S' : Sto) : Prop :=
  match d with
  | .ref a => S' a = S a
  | _ => True
/-- bounded: the items of a list, a tuple -/
def bnd (d : D) (xs : List D) (P : Prop) : Prop :=
  match d with
  | .str _ => P
  | _ => xs.length ≤ Line → P
/-- a place in a sequence of n, from the end below 0 -/
def place (n : Nat) (i : Int) : Option Nat :=
  if 0 ≤ i then (if i < n then some i.toNat else none) else if -(n : Int) ≤ i then some (i + n).toNat else none
def idxW (S : Sto) (x y : D) (Q : D → Prop) : Prop :=
  match x, y with
  | .fls xs, .int i => ∃ k d, place xs.length i = some k ∧ xs[k]? = some d ∧ Q d
  | .tup xs, .int i => ∃ k d, place xs.length i = some k ∧ xs[k]? = some d ∧ Q d
  | .str s, .int i => s.length ≤ Line ∧ ∃ k c, place s.length i = some k ∧ s[k]? = some c ∧ Q (.str [c])
  | .ref a, .int i => match S a with
    | some (.lst xs) => ∃ k d, place xs.length i = some k ∧ xs[k]? = some d ∧ Q d
    | _ => False
  | _, _ => False
/-- an end of a slice, none: not told -/
def cutAt (n : Nat) (dflt : Nat) : Option Int → Nat
  | none => dflt
  | some i => if i < 0 then (i + n).toNat else min i.toNat n
def cutL {α : Type} (xs : List α) (lo hi : Option Int) : List α :=
  (xs.drop (cutAt xs.length 0 lo)).take (cutAt xs.length xs.length hi - cutAt xs.length 0 lo)
def slcW (S : Sto) (x : D) (lo hi : Option Int) (Q : QV) : Prop :=
  match x with
  | .tup xs => Q (.tup (cutL xs lo hi)) S
  | .fls xs => ∀ p, S p = none → Q (.ref p) (sup S p (.lst (cutL xs lo hi)))
  | .str s => s.length ≤ Line ∧ Q (.str (cutL s lo hi)) S
  | .ref a => match S a with
    | some (.lst xs) => ∀ p, S p = none → Q (.ref p) (sup S p (.lst (cutL xs lo hi)))
    | _ => False
  | _ => False
def endOf : List D → Option (Option Int)
  | [] => some none
  | [.int i] => some (some i)
  | [.non] => some none
  | _ => none
/-- the name of a value's built-in type -/
def tyOf (S : Sto) : D → Option String
  | .non => some "NoneType"
  | .bl _ => some "bool"
  | .int _ => some "int"
  | .str _ => some "str"
  | .tup _ => some "tuple"
  | .fls _ => some "list"
  | .ref a => match S a with
    | some (.lst _) => some "list"
    | some (.dct _) => some "dict"
    | _ => none
  | _ => none
def tyNs : List String := ["int", "bool", "str", "tuple", "list", "dict"]
def isinst (S : Sto) (x y : D) : Option Bool :=
  match y with
  | .ty n => if tyNs.contains n = true then (tyOf S x).map fun t => t == n || (t == "bool" && n == "int") else none
  | _ => none
def joinL (sep : List Nat) : List (List Nat) → List Nat
  | [] => []
  | [x] => x
  | x :: y :: r => x ++ sep ++ joinL sep (y :: r)
def strsOf : List D → Option (List (List Nat))
  | [] => some []
  | .str s :: r => (strsOf r).map (s :: ·)
  | _ => none
def blsOf : List D → Option (List Bool)
  | [] => some []
  | .bl b :: r => (blsOf r).map (b :: ·)
  | _ => none
def intsOf : List D → Option (List Int)
  | [] => some []
  | .int i :: r => (intsOf r).map (i :: ·)
  | _ => none
def bltW (S : Sto) (b : Bi) (ds : List D) (Q : QV) : Prop :=
  match b, ds with
  | .len, [.str s] => s.length ≤ Line ∧ Q (.int s.length) S
  | .len, [.tup xs] => xs.length ≤ Line → Q (.int xs.length) S
  | .len, [.fls xs] => xs.length ≤ Line → Q (.int xs.length) S
  | .len, [.ref a] => match S a with
    | some (.lst xs) => xs.length ≤ Line → Q (.int xs.length) S
    | _ => False
  | .abs, [.int i] => Q (.int (if i < 0 then -i else i)) S
  | .int, [.int i] => Q (.int i) S
  | .int, [.bl k] => Q (.int (if k then 1 else 0)) S
  | .tuple, [x] => ∃ xs, (itemsOf S x = some xs ∧ ∀ s, x ≠ .str s) ∧ True ∧ Q (.tup xs) S
  | .list, [x] => ∃ xs, (itemsOf S x = some xs ∧ ∀ s, x ≠ .str s) ∧ True ∧ ∀ p, S p = none → Q (.ref p) (sup S p (.lst xs))
  | .isinstance, [x, y] => ∃ k, isinst S x y = some k ∧ Q (.bl k) S
  | .all, [x] => ∃ xs bs, (∃ a, x = .ref a ∧ S a = some (.lst xs)) ∧ blsOf xs = some bs ∧ Q (.bl (bs.all id)) S
  | .any, [x] => ∃ xs bs, (∃ a, x = .ref a ∧ S a = some (.lst xs)) ∧ blsOf xs = some bs ∧ Q (.bl (bs.any id)) S
  | .gcd, [.int i, .int j] => Q (.int (Int.gcd i j)) S
  | .max, [x] => ∃ (n : Int) (ns : List Int), (itemsOf S x = some (.int n :: ns.map .int) ∧ ∀ s, x ≠ .str s) ∧ Q (.int (ns.foldl max n)) S
  | .min, [x] => ∃ (n : Int) (ns : List Int), (itemsOf S x = some (.int n :: ns.map .int) ∧ ∀ s, x ≠ .str s) ∧ Q (.int (ns.foldl min n)) S
  | .sum, [x] => ∃ ns : List Int, (itemsOf S x = some (ns.map .int) ∧ ∀ s, x ≠ .str s) ∧ (∀ xs, x ≠ .tup xs) ∧ Q (.int ns.sum) S
  | _, _ => False
def metW (S : Sto) (m : Mt) (x : D) (ds : List D) (Q : QV) : Prop :=
  match m, x, ds with
  | .append, .ref a, [d] => match S a with
    | some (.lst xs) => xs.length < Line ∧ Q .non (sup S a (.lst (xs ++ [d])))
    | _ => False
  | .join, .str sep, [y] => ∃ xs ss, (itemsOf S y = some xs ∧ ∀ s, y ≠ .str s) ∧ strsOf xs = some ss ∧ (ss.map (·.length)).sum + ss.length * sep.length ≤ Line ∧ Q (.str (joinL sep ss)) S
  | _, _, _ => False
/-- a method's receiver -/
def recvW (S : Sto) (m : Mt) (x : D) : Prop :=
  match m with
  | .append => ∃ p xs, x = .ref p ∧ S p = some (.lst xs)
  | .join => ∃ s, x = .str s
  | _ => False

/-! ### targets -/
mutual
def tgW (S : Sto) : Tg → D → Env → (Env → Prop) → Prop
  | .n i, d, e, K => i < e.length ∧ K (e.set i (some (.d d)))
  | .t ts, d, e, K => ∃ xs, (d = .tup xs ∨ ∃ a, d = .ref a ∧ S a = some (.lst xs)) ∧ tgsW S ts xs e K
def tgsW (S : Sto) : List Tg → List D → Env → (Env → Prop) → Prop
  | [], xs, e, K => xs = [] ∧ K e
  | t :: ts, xs, e, K => ∃ d r, xs = d :: r ∧ tgW S t d e fun e' => tgsW S ts r e' K
end
def wipe (e : Env) : List Nat → Env
  | [] => e
  | i :: r => (wipe e r).set i none
/-- the plain values alone -/
def datE (e : Env) : Env := e.map fun o => match o with
  | some (.d d) => some (.d d)
  | _ => none
abbrev noX : QX := fun _ _ _ => False
/-- what was captured -/
def capsOf (e : Env) : List Nat → Option (List AV)
  | [] => some []
  | i :: r => match e[i]?, capsOf e r with
    | some (some (.d x)), some l => some (.d x :: l)
    | some (some (.clo ps fr b cs ds)), some l => some (.clo ps fr b cs ds :: l)
    | _, _ => none
def enumL : Nat → List D → List D
  | _, [] => []
  | i, d :: r => .tup [.int i, d] :: enumL (i + 1) r
def zipL : List (List D) → List D
  | [xs, ys] => (xs.zip ys).map fun p => .tup [p.1, p.2]
  | [xs, ys, zs] => (xs.zip (ys.zip zs)).map fun p => .tup [p.1, p.2.1, p.2.2]
  | _ => []
def rngL (lo hi : Int) : List D := (List.range (hi - lo).toNat).map fun (k : Nat) => .int (lo + (k : Int))
def allItems (S : Sto) : List D → Option (List (List D))
  | [] => some []
  | d :: r => match itemsOf S d, allItems S r with
    | some xs, some l => some (xs :: l)
    | _, _ => none
def allStay (S : Sto) (ds : List D) (S' : Sto) : Prop := ∀ d ∈ ds, stays S d S'

abbrev QI := List D → (Sto → Prop) → Sto → Prop
mutual
/-- what an expression comes to -/
def wpE (C : CallT) : Ex → Env → Sto → QV → QX → Prop
  | .var i, e, S, Q, _ => ∃ d, e[i]? = some (some (.d d)) ∧ Q d S
  | .non, _, S, Q, _ => Q .non S
  | .bl b, _, S, Q, _ => Q (.bl b) S
  | .int i, _, S, Q, _ => Q (.int i) S
  | .str s, _, S, Q, _ => Q (.str s) S
  | .gfn x, _, S, Q, _ => Q (.fn x) S
  | .gc _ d, _, S, Q, _ => Q d S
  | .ty x, _, S, Q, _ => Q (.ty x) S
  | .tup es, e, S, Q, E => wpL C es e S (fun ds S' => Q (.tup ds) S') E
  | .lst es, e, S, Q, E => wpL C es e S (fun ds S' => ∀ p, S' p = none → Q (.ref p) (sup S' p (.lst ds))) E
  | .bin o a b, e, S, Q, E => wpE C a e S (fun x S1 => wpE C b e S1 (fun y S2 => binW S2 o x y Q) E) E
  | .neg a, e, S, Q, E => wpE C a e S (fun x S1 => ∃ i, x = .int i ∧ Q (.int (-i)) S1) E
  | .cmp o a b, e, S, Q, E => wpE C a e S (fun x S1 => wpE C b e S1 (fun y S2 => cmpW S2 o x y fun k => Q (.bl k) S2) E) E
  | .chain o o' a b c, e, S, Q, E => wpE C a e S (fun x S1 => wpE C b e S1 (fun y S2 => cmpW S2 o x y fun k =>
      if k = true then wpE C c e S2 (fun z S3 => cmpW S3 o' y z fun k' => Q (.bl k') S3) E else Q (.bl false) S2) E) E
  | .not a, e, S, Q, E => wpE C a e S (fun x S1 => ∃ k, tru S1 x = some k ∧ Q (.bl (!k)) S1) E
  | .and a b, e, S, Q, E => wpE C a e S (fun x S1 => ∃ k, tru S1 x = some k ∧ if k = true then wpE C b e S1 Q E else Q x S1) E
  | .or a b, e, S, Q, E => wpE C a e S (fun x S1 => ∃ k, tru S1 x = some k ∧ if k = true then Q x S1 else wpE C b e S1 Q E) E
  | .ite t a b, e, S, Q, E => wpE C t e S (fun x S1 => ∃ k, tru S1 x = some k ∧ if k = true then wpE C a e S1 Q E else wpE C b e S1 Q E) E
  | .idx a i, e, S, Q, E => wpE C a e S (fun x S1 => wpE C i e S1 (fun y S2 => idxW S2 x y fun d => Q d S2) E) E
  | .slc a lo hi, e, S, Q, E => wpE C a e S (fun x S1 => wpL C lo e S1 (fun l S2 => ∃ i, endOf l = some i ∧ wpL C hi e S2 (fun h S3 => ∃ j, endOf h = some j ∧ slcW S3 x i j Q) E) E) E
  | .fld a f, e, S, Q, E => wpE C a e S (fun x S1 => ∃ p C' fs d, x = .ref p ∧ S1 p = some (.ins C' fs) ∧ fs.lookup f = some d ∧ Q d S1) E
  | .efld i f, e, S, Q, _ => ∃ x fs d, e[i]? = some (some (.exc x fs)) ∧ fs.lookup f = some d ∧ Q d S
  | .call f es _ dfl, e, S, Q, E => wpA C es e S (fun as S1 => C (.d (.fn f)) (as ++ dfl.map .d) S1 Q E) E
  | .cloc i es, e, S, Q, E => ∃ a, e[i]? = some (some a) ∧ canCall a ∧ wpA C es e S (fun as S1 => C a as S1 Q E) E
  | .blt b es, e, S, Q, E => wpL C es e S (fun ds S1 => bltW S1 b ds Q) E
  | .meth a m es, e, S, Q, E => wpE C a e S (fun x S1 => recvW S1 m x ∧ wpL C es e S1 (fun ds S2 => metW S2 m x ds Q) E) E
  | .comp elt tg it ifs own, e, S, Q, E => wpI C it e S (fun ds stay S1 => ds.length ≤ Line ∧ ∀ p, S1 p = none → ∃ W : Nat → List D → Sto → Prop, W 0 [] (sup S1 p (.lst [])) ∧ ∀ i acc S, W i acc S → S p = some (.lst acc) ∧ stay S ∧
      (∀ d, ds[i]? = some d → tgW S tg d (datE (wipe e own)) fun e' => wpL C ifs e' S (fun ts S' => ∃ k, (match ts with | [] => some true | [t] => tru S' t | _ => none) = some k ∧
        if k = true then wpE C elt e' S' (fun y S'' => S'' p = some (.lst acc) ∧ W (i + 1) (acc ++ [y]) (sup S'' p (.lst (acc ++ [y])))) noX else W (i + 1) acc S') noX) ∧
      (i = ds.length → Q (.ref p) S)) E
  | _, _, _, _, _ => False
/-- several, from the left -/
def wpL (C : CallT) : List Ex → Env → Sto → (List D → Sto → Prop) → QX → Prop
  | [], _, S, Q, _ => Q [] S
  | x :: r, e, S, Q, E => wpE C x e S (fun d S1 => wpL C r e S1 (fun ds S2 => Q (d :: ds) S2) E) E
/-- arguments -/
def wpA (C : CallT) : List Ex → Env → Sto → (List AV → Sto → Prop) → QX → Prop
  | [], _, S, Q, _ => Q [] S
  | .lam ps fr b caps dfl :: r, e, S, Q, E => wpL C dfl e S (fun ds S1 => ∃ cs, capsOf e caps = some cs ∧ wpA C r e S1 (fun as S2 => Q (.clo ps fr b cs ds :: as) S2) E) E
  | .av i :: r, e, S, Q, E => ∃ a, e[i]? = some (some a) ∧ notX a ∧ wpA C r e S (fun as S2 => Q (a :: as) S2) E
  | x :: r, e, S, Q, E => wpE C x e S (fun d S1 => wpA C r e S1 (fun as S2 => Q (.d d :: as) S2) E) E
/-- what a loop walks: the items, what must stay -/
def wpI (C : CallT) : Ex → Env → Sto → QI → QX → Prop
  | .ival a, e, S, Q, E => wpE C a e S (fun x S1 => ∃ xs, itemsOf S1 x = some xs ∧ bnd x xs (Q xs (stays S1 x) S1)) E
  | .irng es, e, S, Q, E => wpL C es e S (fun ds S1 => match ds with
      | [.int n] => -(2 ^ 62) ≤ n ∧ n < 2 ^ 62 ∧ Q (rngL 0 n) (fun _ => True) S1
      | [.int m, .int n] => -(2 ^ 62) ≤ m ∧ m < 2 ^ 62 ∧ -(2 ^ 62) ≤ n ∧ n < 2 ^ 62 ∧ Q (rngL m n) (fun _ => True) S1
      | _ => False) E
  | .ienum a, e, S, Q, E => wpE C a e S (fun x S1 => ∃ xs, itemsOf S1 x = some xs ∧ bnd x xs (Q (enumL 0 xs) (stays S1 x) S1)) E
  | .izip es, e, S, Q, E => wpL C es e S (fun ds S1 => ∃ l, allItems S1 ds = some l ∧ (ds.length = 2 ∨ ds.length = 3) ∧ Q (zipL l) (allStay S1 ds) S1) E
  | _, _, _, _, _ => False
end

/-! ### statements -/
inductive St where
  | asg (t : Tg) (e : Ex)
  | sidx (a i e : Ex)
  | sfld (a : Ex) (f : String) (e : Ex)
  | aug (i : Nat) (o : Bo) (e : Ex)
  | augf (a : Ex) (f : String) (o : Bo) (e : Ex)
  | ex (e : Ex) | ret (e : Ex) | retn
  | ifs (t : Ex) (a b : List St)
  | for (t : Tg) (it : Ex) (b : List St)
  | whl (t : Ex) (b : List St)
  | rse (x : String) (fs : List String) (es : List Ex)
  | tryx (b : List St) (xs : List String) (is : List Nat) (hs : List (List St))
  | brk | cnt | pass
/-- caught errors are let go -/
def unexc (e : Env) : Env := e.map fun o => match o with
  | some (.exc _ _) => none
  | o => o
abbrev QXE := String → List (String × D) → Env → Sto → Prop
/-- what is wanted behind a statement -/
structure En where
  nx : Env → Sto → Prop
  rt : D → Sto → Prop
  bk : Env → Sto → Prop
  ct : Env → Sto → Prop
  xx : QXE
/-- a[i] = v -/
def sidxW (S : Sto) (x y v : D) (Q : Sto → Prop) : Prop :=
  match x, y with
  | .ref a, .int i => match S a with
    | some (.lst xs) => ∃ k, place xs.length i = some k ∧ Q (sup S a (.lst (xs.set k v)))
    | _ => False
  | _, _ => False
def putF (fs : List (String × D)) (f : String) (d : D) : List (String × D) :=
  match fs with
  | [] => [(f, d)]
  | (g, x) :: r => if g = f then (f, d) :: r else (g, x) :: putF r f d
/-- x op= y, of what is no list -/
def augW (o : Bo) (x y : D) (Q : D → Prop) : Prop :=
  match o, x, y with
  | .add, .int i, .int j => Q (.int (i + j))
  | .add, .str i, .str j => i.length + j.length ≤ Line ∧ Q (.str (i ++ j))
  | .sub, .int i, .int j => Q (.int (i - j))
  | .mul, .int i, .int j => mulOk i j ∧ Q (.int (i * j))
  | _, _, _ => False
mutual
def wpS (C : CallT) : St → En → Env → Sto → Prop
  | .asg t x, K, e, S => wpE C x e S (fun d S1 => tgW S1 t d e fun e' => K.nx e' S1) (fun n fs S1 => K.xx n fs e S1)
  | .sidx a i x, K, e, S => wpE C x e S (fun v S1 => wpE C a e S1 (fun p S2 => wpE C i e S2 (fun y S3 => sidxW S3 p y v fun S4 => K.nx e S4)
      (fun n fs S1 => K.xx n fs e S1)) (fun n fs S1 => K.xx n fs e S1)) (fun n fs S1 => K.xx n fs e S1)
  | .sfld a f x, K, e, S => wpE C x e S (fun v S1 => wpE C a e S1 (fun p S2 => ∃ b C' fs, p = .ref b ∧ S2 b = some (.ins C' fs) ∧ fs.length < 1000 ∧ K.nx e (sup S2 b (.ins C' (putF fs f v))))
      (fun n fs S1 => K.xx n fs e S1)) (fun n fs S1 => K.xx n fs e S1)
  | .aug i o x, K, e, S => ∃ v, e[i]? = some (some (.d v)) ∧ wpE C x e S (fun y S1 => augW o v y fun z => K.nx (e.set i (some (.d z))) S1) (fun n fs S1 => K.xx n fs e S1)
  | .augf a f o x, K, e, S => wpE C a e S (fun p S1 => ∃ b C' fs v, p = .ref b ∧ S1 b = some (.ins C' fs) ∧ fs.lookup f = some v ∧ wpE C x e S1 (fun y S2 => augW o v y fun z =>
      ∃ fs', S2 b = some (.ins C' fs') ∧ fs'.length < 1000 ∧ K.nx e (sup S2 b (.ins C' (putF fs' f z)))) (fun n fs S1 => K.xx n fs e S1)) (fun n fs S1 => K.xx n fs e S1)
  | .ex x, K, e, S => wpE C x e S (fun _ S1 => K.nx e S1) (fun n fs S1 => K.xx n fs e S1)
  | .ret x, K, e, S => wpE C x e S K.rt (fun n fs S1 => K.xx n fs e S1)
  | .retn, K, _, S => K.rt .non S
  | .ifs t a b, K, e, S => wpE C t e S (fun x S1 => ∃ k, tru S1 x = some k ∧ if k = true then wpB C a K e S1 else wpB C b K e S1) (fun n fs S1 => K.xx n fs e S1)
  | .for t it b, K, e, S => wpI C it e S (fun ds stay S1 => ∃ W : Nat → Env → Sto → Prop, W 0 e S1 ∧ ∀ i e S, W i e S → stay S ∧
      (∀ d, ds[i]? = some d → tgW S t d e fun e' => wpB C b { K with nx := W (i + 1), ct := W (i + 1), bk := K.nx } e' S) ∧ (i = ds.length → K.nx e S)) (fun n fs S1 => K.xx n fs e S1)
  | .whl t b, K, e, S => ∃ W : Nat → Env → Sto → Prop, (∃ m, W m e S) ∧ ∀ m e S, W m e S → wpE C t e S (fun x S1 => ∃ k, tru S1 x = some k ∧
      if k = true then wpB C b { K with nx := fun e' S' => ∃ m', m' < m ∧ W m' e' S', ct := fun e' S' => ∃ m', m' < m ∧ W m' e' S', bk := K.nx } e S1 else K.nx e S1) (fun n fs S1 => K.xx n fs e S1)
  | .rse x fs es, K, e, S => wpL C es e S (fun ds S1 => fs.length = ds.length ∧ K.xx x (fs.zip ds) e S1) (fun n fs S1 => K.xx n fs e S1)
  | .tryx b xs is hs, K, e, S => wpB C b { K with xx := fun x fs e' S' => wpH C xs is hs K x fs e' S' } e S
  | .brk, K, e, S => K.bk e S
  | .cnt, K, e, S => K.ct e S
  | .pass, K, e, S => K.nx e S
def wpB (C : CallT) : List St → En → Env → Sto → Prop
  | [], K, e, S => K.nx e S
  | s :: r, K, e, S => wpS C s { K with nx := fun e' S' => wpB C r K e' S' } e S
/-- the clauses, one after the other; behind a suite its name is gone -/
def wpH (C : CallT) : List String → List Nat → List (List St) → En → String → List (String × D) → Env → Sto → Prop
  | x :: xs, i :: is, h :: hs, K, n, fs, e, S =>
    if x = n ∨ x = "PoolError" then wpB C h { nx := fun e' S' => K.nx (unexc (e'.set i none)) S', rt := K.rt, bk := fun e' S' => K.bk (unexc (e'.set i none)) S', ct := fun e' S' => K.ct (unexc (e'.set i none)) S', xx := fun _ _ _ _ => False } (e.set i (some (.exc n fs))) S
    else wpH C xs is hs K n fs e S
  | _, _, _, K, n, fs, e, S => K.xx n fs e S
end
/-! ### unfolding by rfl -/
example (C : CallT) (e : Env) (S : Sto) (Q : QV) (E : QX) : wpE C (.bin .add (.int 3) (.int 4)) e S Q E = Q (.int 7) S := rfl
example (C : CallT) (K : En) (e : Env) (S : Sto) : wpB C [.asg (.n 0) (.int 3), .pass] K e S = (0 < e.length ∧ K.nx (e.set 0 (some (.d (.int 3)))) S) := rfl
example (C : CallT) (e : Env) (S : Sto) (Q : QV) (E : QX) : wpE C (.call "f" [.int 3, .lam [] [] .non [] []] [] []) e S Q E = ∃ cs, capsOf e [] = some cs ∧ C (.d (.fn "f")) [.d (.int 3), .clo [] [] .non cs []] S Q E := rfl
/-! ### a program, and calls that keep to it -/
structure FnD where
  ps : List String
  N : List String
  dfl : List D
  body : List St
abbrev endsOf (Q : QV) (E : QX) : En := { nx := fun _ S => Q .non S, rt := Q, bk := fun _ _ => False, ct := fun _ _ => False, xx := fun x fs _ S => E x fs S }
/-- the slots of a def at its start -/
def startE (F : FnD) (as : List AV) : Env := as.map some ++ List.replicate (F.N.length - as.length) none
/-- the slots of a lambda: parameters (defaults behind what is given), what it captured -/
def startL (ps : List String) (as : List AV) (dfl : List D) (caps : List AV) : Env :=
  (as ++ (dfl.drop (dfl.length - (ps.length - as.length))).map AV.d ++ caps).map some
/-- what calls by levels owe: C n has room for n frames -/
structure Calls (fns : String → Option FnD) (C : Nat → CallT) : Prop where
  mono : ∀ {n a as S Q E Q' E'}, C n a as S Q E → (∀ d S', Q d S' → Q' d S') → (∀ x fs S', E x fs S' → E' x fs S') → C n a as S Q' E'
  /-- what is no longer wanted of the store is let go -/
  weak : ∀ {n a as S Q E}, C n a as S (fun d S' => ∃ S'', (∀ b o, S'' b = some o → S' b = some o) ∧ Q d S'') (fun x fs S' => ∃ S'', (∀ b o, S'' b = some o → S' b = some o) ∧ E x fs S'') → C n a as S Q E
  fn : ∀ {n f F as S Q E}, fns f = some F → as.length = F.ps.length → wpB (C n) F.body (endsOf Q E) (startE F as) S → C (n + 1) (.d (.fn f)) as S Q E
  lam : ∀ {n ps fr b caps dfl as S Q E}, as.length ≤ ps.length → ps.length ≤ as.length + dfl.length → wpE (C n) b (startL ps as dfl caps) S Q E → C (n + 1) (.clo ps fr b caps dfl) as S Q E
end PD
set_option maxHeartbeats 1000000
/-! PS: what the deep syntax says is what the model does. Part 1: how values and stores lie in the layer's heap. -/
namespace PS
open PySem PySem.Spec PyProof.Rows L2 PD

/-- a text of its signs -/
def cs (l : List Nat) : Str := ⟨l.toArray⟩
theorem cs_toList (x : Str) : cs x.cps.toList = x := rfl
theorem cs_len (l : List Nat) : (cs l).length = l.length := by simp [cs, Str.length]
theorem cs_app (a b : List Nat) : cs a ++ cs b = cs (a ++ b) := by
  show Str.mk (a.toArray ++ b.toArray) = Str.mk (a ++ b).toArray
  simp
theorem line_eq : sizeLine = Line := sizeLine_eq

/-- what is never written -/
def keepO : HO → Bool
  | .lst _ => false
  | .dK _ => false
  | .dT _ => false
  | .set _ _ => false
  | .ins _ _ _ => false
  | .tbl _ => false
  | _ => true
/-- what is never written stays -/
def Ext (H H' : Hp) : Prop := ∀ b o, H b = some o → keepO o = true → H' b = some o
theorem Ext.refl (H : Hp) : Ext H H := fun _ _ h _ => h
theorem Ext.trans {H H1 H2 : Hp} (a : Ext H H1) (b : Ext H1 H2) : Ext H H2 := fun c o h k => b c o (a c o h k) k
theorem Ext.new {H : Hp} {p : Addr} {o : HO} (h : H p = none) : Ext H (upd H p o) := fun b u e _ => by rw [upd_ne (ne_of_none e h)]; exact e
theorem Ext.put {H : Hp} {p : Addr} {o u : HO} (h : H p = some u) (k : keepO u = false) : Ext H (upd H p o) := fun b v e kv => by
  by_cases q : b = p
  · subst q; rw [h] at e; cases e; rw [k] at kv; cases kv
  · rw [upd_ne q]; exact e

/-- a list that nobody writes: known to the object, or one of the written part -/
def FrL (K : PySem.W.Frag) (H : Hp) (a : Addr) (xs : List V) : Prop :=
  (∃ o, H a = some (.frz o (.lst xs))) ∨
    ∃ (o : Obj) (its : Array Value) (n : Nat), K.lookup a = some o ∧ o.cls = .type "list" ∧ o.dict = none ∧ o.data = .seq its n ∧ its.size ≤ sizeLine ∧ Vals xs its.toList
theorem FrL.sq {K : PySem.W.Frag} {H : Hp} {a : Addr} {xs : List V} (h : FrL K H a xs) : SqL K H a xs := h.elim (fun ⟨o, e⟩ => .inl (.inr ⟨o, e⟩)) .inr
section
variable (K : PySem.W.Frag) (mg : Str → Option Value) (H : Hp)
mutual
/-- a value of the heap stands for a tree -/
inductive Rep : D → V → Prop
  | non : Rep .non .non
  | bl (b : Bool) : Rep (.bl b) (.bl b)
  | int (i : Int) : Rep (.int i) (.int i)
  | str (s : List Nat) : Rep (.str s) (.str (cs s))
  | ref (a : Nat) : Rep (.ref a) (.ref a)
  | ty (n : String) : Rep (.ty n) (.ty n)
  | fn {x : String} {f : Addr} (h : mg (Str.ofString x) = some (.ref f)) (k : PySem.W.keepIn K (.ref f) = true) : Rep (.fn x) (.ref f)
  | tup {a : Addr} {xs : List D} {vs : List V} (h : SqT K H a vs) (r : Reps xs vs) : Rep (.tup xs) (.ref a)
  | fls {a : Addr} {xs : List D} {vs : List V} (h : FrL K H a vs) (r : Reps xs vs) : Rep (.fls xs) (.ref a)
inductive Reps : List D → List V → Prop
  | nil : Reps [] []
  | cons {x : D} {v : V} {xs : List D} {vs : List V} (h : Rep x v) (t : Reps xs vs) : Reps (x :: xs) (v :: vs)
end
end
section
variable {K : PySem.W.Frag} {mg : Str → Option Value} {H H' : Hp}
theorem Reps.len : ∀ {xs : List D} {vs : List V}, Reps K mg H xs vs → xs.length = vs.length
  | _, _, .nil => rfl
  | _, _, .cons _ t => congrArg (· + 1) t.len
theorem Reps.app : ∀ {xs ys : List D} {vs ws : List V}, Reps K mg H xs vs → Reps K mg H ys ws → Reps K mg H (xs ++ ys) (vs ++ ws)
  | _, _, _, _, .nil, s => s
  | _, _, _, _, .cons r t, s => .cons r (t.app s)
theorem Reps.get : ∀ {xs : List D} {vs : List V} {i : Nat} {x : D}, Reps K mg H xs vs → xs[i]? = some x → ∃ v, vs[i]? = some v ∧ Rep K mg H x v
  | _, _, _, _, .nil, e => by simp at e
  | _, _, 0, _, .cons r _, e => by simp at e; subst e; exact ⟨_, rfl, r⟩
  | _, _, i + 1, _, .cons _ t, e => by
    obtain ⟨v, h1, h2⟩ := t.get (i := i) (by simpa using e)
    exact ⟨v, by simpa using h1, h2⟩
theorem Reps.getV : ∀ {xs : List D} {vs : List V} {i : Nat} {v : V}, Reps K mg H xs vs → vs[i]? = some v → ∃ x, xs[i]? = some x ∧ Rep K mg H x v
  | _, _, _, _, .nil, e => by simp at e
  | _, _, 0, _, .cons r _, e => by simp at e; subst e; exact ⟨_, rfl, r⟩
  | _, _, i + 1, _, .cons _ t, e => by
    obtain ⟨v, h1, h2⟩ := t.getV (i := i) (by simpa using e)
    exact ⟨v, by simpa using h1, h2⟩
theorem Reps.drop : ∀ {xs : List D} {vs : List V} (n : Nat), Reps K mg H xs vs → Reps K mg H (xs.drop n) (vs.drop n)
  | _, _, 0, r => r
  | _, _, _ + 1, .nil => .nil
  | _, _, n + 1, .cons _ t => t.drop n
theorem Reps.take : ∀ {xs : List D} {vs : List V} (n : Nat), Reps K mg H xs vs → Reps K mg H (xs.take n) (vs.take n)
  | _, _, 0, _ => .nil
  | _, _, _ + 1, .nil => .nil
  | _, _, n + 1, .cons r t => .cons r (t.take n)
theorem Reps.set {x : D} {v : V} (r : Rep K mg H x v) : ∀ {xs : List D} {vs : List V} (i : Nat), Reps K mg H xs vs → Reps K mg H (xs.set i x) (vs.set i v)
  | _, _, _, .nil => .nil
  | _, _, 0, .cons _ t => .cons r t
  | _, _, i + 1, .cons q t => .cons q (Reps.set r i t)
theorem Reps.rep {xs : List D} {vs : List V} (h : Reps K mg H xs vs) : ∀ k : Nat, Reps K mg H (List.replicate k xs).flatten (List.replicate k vs).flatten
  | 0 => .nil
  | k + 1 => by
    rw [List.replicate_succ, List.replicate_succ, List.flatten_cons, List.flatten_cons]
    exact h.app (h.rep k)
theorem cut_eq (n d : Nat) (o : Option Int) : cutAt n d o = HT.sIx n d o := by cases o <;> rfl
theorem Reps.cut {xs : List D} {vs : List V} (h : Reps K mg H xs vs) (lo hi : Option Int) : Reps K mg H (cutL xs lo hi) (cutV vs lo hi) := by
  unfold cutL cutV
  rw [cut_eq, cut_eq, h.len]
  exact (h.drop _).take _
theorem sqt_ext (e : Ext H H') {a : Addr} {vs : List V} (h : SqT K H a vs) : SqT K H' a vs := by
  rcases h with (h | ⟨o, h⟩) | h
  · exact .inl (.inl (e _ _ h rfl))
  · exact .inl (.inr ⟨o, e _ _ h rfl⟩)
  · exact .inr h
theorem frl_ext (e : Ext H H') {a : Addr} {vs : List V} (h : FrL K H a vs) : FrL K H' a vs := h.elim (fun ⟨o, q⟩ => .inl ⟨o, e _ _ q rfl⟩) .inr
mutual
theorem Rep.ext (e : Ext H H') : ∀ {x : D} {v : V}, Rep K mg H x v → Rep K mg H' x v
  | _, _, .non => .non
  | _, _, .bl b => .bl b
  | _, _, .int i => .int i
  | _, _, .str s => .str s
  | _, _, .ref a => .ref a
  | _, _, .ty n => .ty n
  | _, _, .fn h k => .fn h k
  | _, _, .tup h r => .tup (sqt_ext e h) (Reps.ext e r)
  | _, _, .fls h r => .fls (frl_ext e h) (Reps.ext e r)
theorem Reps.ext (e : Ext H H') : ∀ {xs : List D} {vs : List V}, Reps K mg H xs vs → Reps K mg H' xs vs
  | _, _, .nil => .nil
  | _, _, .cons h t => .cons (Rep.ext e h) (Reps.ext e t)
end
/-- fields by name -/
inductive RepFs (K : PySem.W.Frag) (mg : Str → Option Value) (H : Hp) : List (String × D) → List (Str × V) → Prop
  | nil : RepFs K mg H [] []
  | cons {f : String} {x : D} {v : V} {fs : List (String × D)} {gs : List (Str × V)} (h : Rep K mg H x v) (t : RepFs K mg H fs gs) : RepFs K mg H ((f, x) :: fs) ((Str.ofString f, v) :: gs)
theorem RepFs.ext (e : Ext H H') {fs : List (String × D)} {gs : List (Str × V)} (h : RepFs K mg H fs gs) : RepFs K mg H' fs gs := by
  induction h with
  | nil => exact .nil
  | cons h _ ih => exact .cons (h.ext e) ih
/-- what stands at an address of the store -/
def RepO (K : PySem.W.Frag) (mg : Str → Option Value) (H : Hp) (a : Addr) : O → Prop
  | .lst xs => ∃ vs, H a = some (.lst vs) ∧ Reps K mg H xs vs
  | .ins C fs => ∃ Ca dx gs, H a = some (.ins Ca dx gs) ∧ mg (Str.ofString C) = some (.ref Ca) ∧ RepFs K mg H fs gs
  | .dct _ => False
theorem RepO.at (e : Ext H H') {a : Addr} {o : O} (s : H' a = H a) (h : RepO K mg H a o) : RepO K mg H' a o := by
  cases o with
  | lst xs => obtain ⟨vs, q, r⟩ := h; exact ⟨vs, s.trans q, r.ext e⟩
  | ins C fs => obtain ⟨Ca, dx, gs, q, m, r⟩ := h; exact ⟨Ca, dx, gs, s.trans q, m, r.ext e⟩
  | dct _ => exact h
/-- a store stands for what is tracked -/
def SRel (K : PySem.W.Frag) (mg : Str → Option Value) (H : Hp) (S : Sto) : Prop := ∀ a o, S a = some o → RepO K mg H a o
theorem RepO.some {a : Addr} {o : O} (h : RepO K mg H a o) : H a ≠ none := by
  cases o with
  | lst xs => obtain ⟨vs, q, _⟩ := h; rw [q]; exact fun z => by cases z
  | ins C fs => obtain ⟨Ca, dx, gs, q, _⟩ := h; rw [q]; exact fun z => by cases z
  | dct _ => exact h.elim
theorem SRel.fresh {S : Sto} (h : SRel K mg H S) {p : Addr} (n : H p = none) : S p = none := by
  cases e : S p with
  | none => rfl
  | some o => exact absurd n (h p o e).some
theorem sup_same {S : Sto} {a : Nat} {o : O} : sup S a o a = some o := by unfold sup; rw [if_pos rfl]
theorem sup_ne {S : Sto} {a b : Nat} {o : O} (h : b ≠ a) : sup S a o b = S b := by unfold sup; rw [if_neg h]
/-- nothing that the store knows is touched -/
theorem SRel.keep {S : Sto} (h : SRel K mg H S) (e : Ext H H') (k : ∀ a o, S a = some o → H' a = H a) : SRel K mg H' S := fun a o q => (h a o q).at e (k a o q)
theorem SRel.new {S : Sto} (h : SRel K mg H S) {p : Addr} {o : HO} (n : H p = none) : SRel K mg (upd H p o) S :=
  h.keep (.new n) fun a u q => upd_ne fun z => by subst z; exact (h a u q).some n
theorem SRel.newl {S : Sto} (h : SRel K mg H S) {p : Addr} (n : H p = none) {xs : List D} {vs : List V} (r : Reps K mg H xs vs) : SRel K mg (upd H p (.lst vs)) (sup S p (.lst xs)) := fun a o q => by
  by_cases z : a = p
  · subst z; rw [sup_same] at q; cases q
    exact ⟨vs, upd_same, r.ext (.new n)⟩
  · rw [sup_ne z] at q
    exact (h.new n) a o q
theorem SRel.setl {S : Sto} (h : SRel K mg H S) {p : Addr} {ws : List V} (n : H p = some (.lst ws)) {xs : List D} {vs : List V} (r : Reps K mg H xs vs) : SRel K mg (upd H p (.lst vs)) (sup S p (.lst xs)) := fun a o q => by
  have e : Ext H (upd H p (.lst vs)) := .put n rfl
  by_cases z : a = p
  · subst z; rw [sup_same] at q; cases q
    exact ⟨vs, upd_same, r.ext e⟩
  · rw [sup_ne z] at q
    exact (h a o q).at e (upd_ne z)
theorem SRel.mono {S S' : Sto} (h : SRel K mg H S) (l : ∀ a o, S' a = some o → S a = some o) : SRel K mg H S' := fun a o q => h a o (l a o q)
end
end PS
set_option maxHeartbeats 1000000
/-! PS, part 2: does a text of the row match the deep syntax? (a Bool, for the kernel) -/
namespace PS
open PySem PySem.Spec PyProof.Rows L2 PD

/-- what a program's text is known by: its defs, its errors with their fields, its constants, the built-in names that it leaves alone -/
structure Tb where
  fns : List (String × FnD)
  errs : List (String × List String)
  gcs : List (String × D)
  blts : List String

abbrev os (x : String) : Str := Str.ofString x
def visB (sc : Scope) (x : Str) : Bool := match sc.names.lookup x with | some .local => true | some .cell => true | some .free => true | _ => false
def locB (sc : Scope) (x : Str) : Bool := match sc.names.lookup x with | some .local => true | some .cell => true | _ => false
def gloB (sc : Scope) (x : Str) : Bool := match sc.names.lookup x with | some .globalImplicit => true | _ => false
def dbgB (x : Str) : Bool := !(x == ("__debug__" : Str)) && !(x == ("__classdict__" : Str))
def atB (N : List String) (i : Nat) (x : Str) : Bool := match N[i]? with | some y => os y == x | none => false
mutual
/-- the same tree -/
def sameD : D → D → Bool
  | .non, .non => true
  | .bl a, .bl b => a == b
  | .int a, .int b => a == b
  | .str a, .str b => a == b
  | .ty a, .ty b => a == b
  | .fn a, .fn b => a == b
  | .tup a, .tup b => sameDs a b
  | _, _ => false
def sameDs : List D → List D → Bool
  | [], [] => true
  | a :: r, b :: s => sameD a b && sameDs r s
  | _, _ => false
end
def boB : Bo → Operator → Bool
  | .add, .Add => true | .sub, .Sub => true | .mul, .Mult => true | .fdiv, .FloorDiv => true | .mod, .Mod => true | .pow, .Pow => true
  | .band, .BitAnd => true | .bor, .BitOr => true | .shl, .LShift => true | .shr, .RShift => true
  | _, _ => false
def coB : Co → CmpOp → Bool
  | .eq, .Eq => true | .ne, .NotEq => true | .lt, .Lt => true | .le, .LtE => true | .gt, .Gt => true | .ge, .GtE => true
  | .is, .Is => true | .isnot, .IsNot => true | .inn, .In => true | .notin, .NotIn => true
  | _, _ => false
/-- no set display (its marks are told elsewhere), no slice, no star -/
def plainB : Expr → Bool
  | .Set .. => false
  | .Slice .. => false
  | .Starred .. => false
  | _ => true
/-- no call without arguments (super().x is told elsewhere) -/
def baseB : Expr → Bool
  | .Call _ [] [] _ => false
  | _ => true
def biN : Bi → String
  | .len => "len" | .abs => "abs" | .int => "int" | .str => "str" | .tuple => "tuple" | .list => "list" | .isinstance => "isinstance" | .all => "all" | .any => "any"
  | .sum => "sum" | .max => "max" | .min => "min" | .sorted => "sorted" | .gcd => "gcd" | .bool => "bool"
def mtN : Mt → String
  | .append => "append" | .pop => "pop" | .pop0 => "pop" | .insert => "insert" | .remove => "remove" | .index => "index" | .count => "count" | .join => "join"
  | .partition => "partition" | .split => "split" | .isdigit => "isdigit" | .replace => "replace" | .get => "get"
def argN (a : Arguments) : List Str := a.args.map (·.arg)
/-- plain parameters, defaults for the last ones -/
def argsB (a : Arguments) (ps : List String) (nd : Nat) : Bool :=
  a.posonlyargs.isEmpty && a.vararg.isNone && a.kwonlyargs.isEmpty && a.kw_defaults.isEmpty && a.kwarg.isNone && argN a == ps.map os && a.defaults.length == nd && decide (nd ≤ ps.length)
def tyNames : List String := ["int", "bool", "str", "tuple", "list", "dict"]
def strB : List String → List Str → Bool
  | [], [] => true
  | a :: r, b :: s => os a == b && strB r s
  | _, _ => false
/-- the keywords' names -/
def kwN : List Keyword → List Str
  | [] => []
  | ⟨some n, _, _⟩ :: r => n :: kwN r
  | ⟨none, _, _⟩ :: r => kwN r
def kwsB (l : List Keyword) : Bool := l.all fun k => k.arg.isSome && plainB k.value
/-- the mode of a text: nothing is handled, lambdas may be made -/
structure Md where
  cm : Bool
  lm : Bool
mutual
def chkT (sc : Scope) (N : List String) : Tg → Expr → Bool
  | .n i, .Name x _ => atB N i x && locB sc x
  | .t ts, .Tuple es _ _ => chkTs sc N ts es
  | _, _ => false
def chkTs (sc : Scope) (N : List String) : List Tg → List Expr → Bool
  | [], [] => true
  | t :: ts, e :: es => plainB e && chkT sc N t e && chkTs sc N ts es
  | _, _ => false
end
mutual
/-- the slots that a target writes -/
def tgIx : Tg → List Nat
  | .n i => [i]
  | .t ts => tgIxs ts
def tgIxs : List Tg → List Nat
  | [] => []
  | t :: ts => tgIx t ++ tgIxs ts
end
/-- pairs go to several names -/
def tgOk : Ex → Tg → Bool
  | .ienum _, .n _ => false
  | .izip _, .n _ => false
  | _, _ => true
def calmB (b : Bi) (m : Md) : Bool := match b with
  | .all => m.cm
  | .any => m.cm
  | .max => m.cm
  | .min => m.cm
  | .sum => m.cm
  | _ => true
/-- the methods that are told so far -/
def mtOk : Mt → Bool
  | .append => true
  | .join => true
  | _ => false
/-- no lambda, no slot handed over as it is -/
def isPl : Ex → Bool
  | .lam .. => false
  | .av _ => false
  | _ => true
section
variable (T : Tb)
def fnB (f : String) : Bool := (T.fns.any fun p => p.1 == f) || (T.errs.any fun p => p.1 == f)
mutual
def chkE : Ex → Md → Scope → List String → Expr → Bool
  | .var i, _, sc, N, .Name x _ => atB N i x && visB sc x && dbgB x
  | .non, _, _, _, .Constant .none _ _ => true
  | .bl b, _, _, _, .Constant (.bool c) _ _ => b == c
  | .int i, _, _, _, .Constant (.int j) _ _ => i == j
  | .str s, _, _, _, .Constant (.str x) _ _ => s == x.cps.toList
  | .gfn f, _, sc, _, .Name x _ => os f == x && gloB sc x && dbgB x && fnB T f
  | .gc c d, _, sc, _, .Name x _ => os c == x && gloB sc x && dbgB x && T.gcs.any fun p => p.1 == c && sameD p.2 d
  | .ty t, _, sc, _, .Name x _ => os t == x && gloB sc x && dbgB x && tyNames.contains t && T.blts.contains t
  | .tup es, m, sc, N, .Tuple xs _ _ => decide (es.length ≤ 1000) && chkL es m sc N xs
  | .lst es, m, sc, N, .List xs _ => decide (es.length ≤ 1000) && chkL es m sc N xs
  | .bin o a b, m, sc, N, .BinOp x p y _ => boB o p && chkE a m sc N x && chkE b m sc N y
  | .neg a, m, sc, N, .UnaryOp .USub x _ => chkE a m sc N x
  | .cmp o a b, m, sc, N, .Compare x [p] [y] _ => coB o p && plainB y && chkE a m sc N x && chkE b m sc N y
  | .chain o o' a b c, m, sc, N, .Compare x [p, p'] [y, z] _ => coB o p && coB o' p' && plainB y && plainB z && chkE a m sc N x && chkE b m sc N y && chkE c m sc N z
  | .not a, m, sc, N, .UnaryOp .Not x _ => chkE a m sc N x
  | .and a b, m, sc, N, .BoolOp .And (x :: y :: r) p => chkE a m sc N x && (match r with | [] => chkE b m sc N y | _ => chkE b m sc N (.BoolOp .And (y :: r) p))
  | .or a b, m, sc, N, .BoolOp .Or (x :: y :: r) p => chkE a m sc N x && (match r with | [] => chkE b m sc N y | _ => chkE b m sc N (.BoolOp .Or (y :: r) p))
  | .ite t a b, m, sc, N, .IfExp z x y _ => chkE t m sc N z && chkE a m sc N x && chkE b m sc N y
  | .idx a i, m, sc, N, .Subscript x y _ => plainB y && chkE a m sc N x && chkE i m sc N y
  | .slc a lo hi, m, sc, N, .Subscript x (.Slice l h none _) _ => chkE a m sc N x && chkO lo m sc N l && chkO hi m sc N h
  | .efld i f, _, sc, N, .Attribute (.Name x _) g _ => os f == g && atB N i x && visB sc x && dbgB x
  | .call f es kws dfl, m, sc, N, .Call (.Name x _) xs ks _ => os f == x && gloB sc x && dbgB x && m.cm && kwsB ks && strB kws (kwN ks) && chkA es m sc N (xs ++ ks.map (·.value)) &&
      (match T.fns.lookup f with
        | some F => decide (es.length + dfl.length = F.ps.length) && sameDs dfl (F.dfl.drop (F.dfl.length - dfl.length)) && decide (dfl.length ≤ F.dfl.length) && kws == (F.ps.take es.length).drop (es.length - kws.length) && decide (kws.length ≤ es.length) && (kws.isEmpty || es.all isPl)
        | none => false)
  | .cloc i es, m, sc, N, .Call (.Name x _) xs [] _ => atB N i x && visB sc x && dbgB x && m.cm && chkA es m sc N xs
  | .blt b es, m, sc, N, .Call (.Name x _) xs [] _ => os (biN b) == x && gloB sc x && dbgB x && T.blts.contains (biN b) && calmB b m && !xs.isEmpty && chkL es m sc N xs
  | .meth a t es, m, sc, N, .Call (.Attribute x g p) xs [] p' => mtOk t && os (mtN t) == g && baseB x && p.endLine == p'.line && decide (xs.length < 20) && !xs.isEmpty && chkE a m sc N x && chkL es m sc N xs
  | .comp elt tg it ifs own, m, sc, N, .ListComp x [⟨t, i, is, k⟩] scope _ =>
      decide (k = 0) && m.cm && blkC (N.map os) sc scope (own.map fun k => ((N.map os).getD k Str.empty, k)) && chkI it m sc N i && tgOk it tg && (tgIx tg).all (fun i => own.contains i) && chkT scope N tg t && chkL ifs ⟨m.cm, false⟩ (relS scope sc) N is && decide (is.length ≤ 1) && chkE elt ⟨m.cm, false⟩ (relS scope sc) N x
  | _, _, _, _, _ => false
def chkL : List Ex → Md → Scope → List String → List Expr → Bool
  | [], _, _, _, [] => true
  | a :: r, m, sc, N, x :: s => plainB x && chkE a m sc N x && chkL r m sc N s
  | _, _, _, _, _ => false
/-- a part of a slice -/
def chkO : List Ex → Md → Scope → List String → Option Expr → Bool
  | [], _, _, _, none => true
  | [a], m, sc, N, some x => chkE a m sc N x
  | _, _, _, _, _ => false
def chkA : List Ex → Md → Scope → List String → List Expr → Bool
  | [], _, _, _, [] => true
  | .lam ps fr b caps dfl :: r, m, sc, N, .Lambda a x scope _ :: s => m.lm && argsB a ps dfl.length && decide (dfl.length ≤ 1) && chkL dfl m sc N a.defaults && chkE b ⟨true, false⟩ scope (ps ++ fr) x &&
      decide (scope.kind = .function) && !scope.isCoroutine && !scope.isGenerator && decide (fr.length = caps.length) &&
      decide (ps.map os ++ fr.map os).Nodup &&
      (ps.all fun p => decide (scope.names.lookup (os p) = some .local)) && (fr.all fun p => decide (scope.names.lookup (os p) = some .free)) &&
      (scope.names.all fun y => match y.2 with
        | .local => ps.any fun p => os p == y.1
        | .free => (fr.any fun p => os p == y.1) && (match sc.names.lookup y.1 with | some .cell => true | some .free => true | _ => false)
        | .cell => false
        | _ => true) &&
      (fr.zip caps).all (fun p => atB N p.2 (os p.1)) && chkA r m sc N s
  | .av i :: r, m, sc, N, .Name x _ :: s => atB N i x && visB sc x && dbgB x && chkA r m sc N s
  | a :: r, m, sc, N, x :: s => plainB x && chkE a m sc N x && chkA r m sc N s
  | _, _, _, _, _ => false
def chkI : Ex → Md → Scope → List String → Expr → Bool
  | .ival a, m, sc, N, x => plainB x && chkE a m sc N x
  | .irng es, m, sc, N, .Call (.Name x _) xs [] _ => (es.length == 1 || es.length == 2) && os "range" == x && gloB sc x && T.blts.contains "range" && chkL es m sc N xs
  | .ienum a, m, sc, N, .Call (.Name x _) [y] [] _ => os "enumerate" == x && gloB sc x && T.blts.contains "enumerate" && plainB y && chkE a m sc N y
  | .izip es, m, sc, N, .Call (.Name x _) xs [] _ => decide (es.length = 2) && os "zip" == x && gloB sc x && T.blts.contains "zip" && chkL es m sc N xs
  | _, _, _, _, _ => false
end
end
end PS
set_option maxHeartbeats 1000000
/-! PS, part 3: contexts, closures, the reading of an expression. -/
namespace PS
open PySem PySem.Spec PyProof.Rows L2 PD

/-- a lambda's object, its defaults at dV -/
abbrev cloObj (qual : Str) (params : Arguments) (body : Expr) (scope : Scope) (cl : List (Str × Addr)) (dV doc pm : Value) (c' : Addr) (ctv : Value) : Obj :=
  { cls := .type "function", data := .func { PySem.W.kla_fn "<lambda>" qual params body scope cl pm (.ref c') ctv with defaults := dV, doc := doc } }
/-- what the text of a lambda must be -/
def lamB (T : Tb) (ps fr : List String) (b : Ex) (nd : Nat) (a : Arguments) (x : Expr) (scope : Scope) : Bool :=
  argsB a ps nd && chkE T b ⟨true, false⟩ scope (ps ++ fr) x && decide (scope.kind = .function) && !scope.isCoroutine && !scope.isGenerator &&
    decide (ps.map os ++ fr.map os).Nodup &&
    (ps.all fun p => decide (scope.names.lookup (os p) = some .local)) && (fr.all fun p => decide (scope.names.lookup (os p) = some .free)) &&
    (scope.names.all fun y => match y.2 with
      | .local => ps.any fun p => os p == y.1
      | .free => fr.any fun p => os p == y.1
      | .cell => false
      | _ => true)
section
variable (T : Tb) (K : PySem.W.Frag) (mg : Str → Option Value) (hp : Heap) (H : Hp)
/-- the defaults' tuple: none, or one that nobody writes -/
def DflAt (dV : Value) (dfl : List D) : Prop :=
  (dfl = [] ∧ dV = .none) ∨ ∃ (t : Addr) (o : Obj) (its : List Value) (n : Nat) (vs : List V), dV = .ref t ∧ hp.get? t = some o ∧ o.data = .seq its.toArray n ∧ H t = none ∧ dfl ≠ [] ∧ Vals vs its ∧ Reps K mg H dfl vs
mutual
/-- the closure at f, by the state ahead -/
inductive CloAt : Addr → AV → Prop
  | mk {f : Addr} {ps fr : List String} {b : Ex} {caps : List AV} {dfl : List D} {qual : Str} {params : Arguments} {body : Expr} {scope : Scope} {cells : List (Str × Addr)} {dV doc pm : Value} {c' : Addr} {ctv : Value} {sl : Array (Option Value)}
      (ho : hp.get? f = some { cloObj qual params body scope cells dV doc pm c' ctv with slots := sl }) (hf : H f = none) (hc : H c' = some (LamX.CodeO c' qual)) (hb : lamB T ps fr b dfl.length params body scope = true)
      (inj : ∀ x y c, cells.lookup x = some c → cells.lookup y = some c → x = y) (keys : ∀ x c, cells.lookup x = some c → ∃ y ∈ fr, x = os y) (hd : DflAt K mg hp H dV dfl) (cap : CapsAt fr cells caps) : CloAt f (.clo ps fr b caps dfl)
/-- what was captured, by name -/
inductive CapsAt : List String → List (Str × Addr) → List AV → Prop
  | nil {cells : List (Str × Addr)} : CapsAt [] cells []
  | d {x : String} {c : Addr} {u : Value} {v : V} {y : D} {fr : List String} {cells : List (Str × Addr)} {caps : List AV} (hc : cells.lookup (os x) = some c) (hi : hp.IsCell c (some u)) (hf : H c = none) (r : RelV v u) (q : Rep K mg H y v)
      (t : CapsAt fr cells caps) : CapsAt (x :: fr) cells (.d y :: caps)
  | c {x : String} {c f : Addr} {a : AV} {fr : List String} {cells : List (Str × Addr)} {caps : List AV} (hc : cells.lookup (os x) = some c) (hi : hp.IsCell c (some (.ref f))) (hf : H c = none) (q : CloAt f a)
      (t : CapsAt fr cells caps) : CapsAt (x :: fr) cells (a :: caps)
end
end
section
variable {T : Tb} {K : PySem.W.Frag} {mg : Str → Option Value} {hp hp' : Heap} {H H' : Hp}
/-- what is not tracked stays, up to slots -/
def Kept (hp hp' : Heap) (H H' : Hp) : Prop := ∀ b o, hp.get? b = some o → H b = none → (∃ sl, hp'.get? b = some { o with slots := sl }) ∧ H' b = none
theorem DflAt.on (e : Ext H H') (k : Kept hp hp' H H') {dV : Value} {dfl : List D} (h : DflAt K mg hp H dV dfl) : DflAt K mg hp' H' dV dfl := by
  rcases h with h | ⟨t, o, its, n, vs, rfl, ho, hd, hf, ne, r, q⟩
  · exact .inl h
  · obtain ⟨⟨sl, k1⟩, k2⟩ := k t o ho hf
    exact .inr ⟨t, _, its, n, vs, rfl, k1, hd, k2, ne, r, q.ext e⟩
theorem cell_on (k : Kept hp hp' H H') {c : Addr} {v : Option Value} (hi : hp.IsCell c v) (hf : H c = none) : hp'.IsCell c v ∧ H' c = none := by
  obtain ⟨o, ho, hd⟩ := hi
  obtain ⟨⟨sl, k1⟩, k2⟩ := k c o ho hf
  exact ⟨⟨_, k1, hd⟩, k2⟩
mutual
theorem CloAt.on (e : Ext H H') (k : Kept hp hp' H H') : ∀ {f : Addr} {a : AV}, CloAt T K mg hp H f a → CloAt T K mg hp' H' f a
  | _, _, .mk ho hf hc hb inj keys hd cap => by
    obtain ⟨⟨sl, k1⟩, k2⟩ := k _ _ ho hf
    exact .mk (sl := sl) k1 k2 (e _ _ hc rfl) hb inj keys (hd.on e k) (CapsAt.on e k cap)
theorem CapsAt.on (e : Ext H H') (k : Kept hp hp' H H') : ∀ {fr : List String} {cells : List (Str × Addr)} {caps : List AV}, CapsAt T K mg hp H fr cells caps → CapsAt T K mg hp' H' fr cells caps
  | _, _, _, .nil => .nil
  | _, _, _, .d hc hi hf r q t => .d hc (cell_on k hi hf).1 (cell_on k hi hf).2 r (q.ext e) (CapsAt.on e k t)
  | _, _, _, .c hc hi hf q t => .c hc (cell_on k hi hf).1 (cell_on k hi hf).2 (CloAt.on e k q) (CapsAt.on e k t)
end
end

/-- what stays fixed: the tables, by their text; the tables of code objects -/
structure GT where
  T : Tb
  tabs : List (Addr × Str)
  /-- the point by which closures are told: the heap, the abstract heap -/
  hp : Heap
  H0 : Hp
  /-- what is never written since then stays -/
  Hx : Hp
  /-- closures may stand in slots -/
  clo : Bool
/-- a field of an error's class is the instance's own -/
def Fld (K : PySem.W.Frag) (C : Addr) (f : String) : Prop := XfC K C ∧ PySem.W.findIn K (.ref C) (os f) = some none
/-- a caught error: the one that the suite handles, at its dict -/
def ExcAt (X : Cx) (H : Hp) (x : String) (fs : List (String × D)) (v : V) : Prop := fs = [] ∨
  ∃ (a C dd : Addr) (gs : List (Str × V)) (oe : Obj), v = .ref a ∧ X.A.handled = some (.ref a) ∧ (a, oe) ∈ X.pn ∧ Zc (.ref C) (some dd) oe ∧ (∃ vs, oe.data = .fields vs) ∧ X.mg (os x) = some (.ref C) ∧ H dd = some (.xd gs) ∧ RepFs X.K X.mg H fs gs ∧ ∀ f d, fs.lookup f = some d → Fld X.K C f
def RepA (G : GT) (X : Cx) (H : Hp) (a : AV) (v : V) : Prop :=
  match a with
  | .d x => Rep X.K X.mg H x v
  | .clo ps fr b caps dfl => ∃ f, v = .ref f ∧ CloAt G.T X.K X.mg G.hp G.H0 f (.clo ps fr b caps dfl)
  | .exc x fs => ExcAt X H x fs v
theorem RepA.ext {G : GT} {X : Cx} {H H' : Hp} (e : Ext H H') {a : AV} {v : V} (h : RepA G X H a v) : RepA G X H' a v := by
  cases a with
  | d x => exact Rep.ext e h
  | clo ps fr b caps dfl => exact h
  | exc x fs =>
    rcases h with h | ⟨a, C, dd, gs, oe, h1, h2, h3, h4, h5, h6, h7, h8, h9⟩
    · exact .inl h
    · exact .inr ⟨a, C, dd, gs, oe, h1, h2, h3, h4, h5, h6, e _ _ h7 rfl, h8.ext e, h9⟩
/-- tables stay, and what is no table -/
def TExt (H H' : Hp) : Prop := ∀ b ps, H b = some (.tbl ps) → H' b = some (.tbl ps)
theorem tabs_keep {tabs : List (Addr × Str)} {H H' : Hp} (t : LamX.Tabs tabs H) (e : Ext H H') (k : TExt H H') : LamX.Tabs tabs H' := fun p hp => by
  obtain ⟨ps, h1, h2, h3⟩ := t p hp
  refine ⟨ps, k _ _ h1, h2, fun pos cv hc => ?_⟩
  obtain ⟨c, e1, e2⟩ := h3 pos cv hc
  exact ⟨c, e1, e _ _ e2 rfl⟩
/-- the state of a context stands for slots and a store -/
structure SR (G : GT) (X : Cx) (σ : L2.St) (H : Hp) (e : PD.Env) (S : Sto) : Prop where
  ext : Ext G.H0 H
  exx : Ext G.Hx H
  tab : LamX.Tabs G.tabs H
  len : e.length = X.N.length
  sl : σ.length = X.N.length
  env : ∀ (i : Nat) (a : AV), e[i]? = some (some a) → ∃ v, σ[i]? = some (some v) ∧ RepA G X H a v
  sto : SRel X.K X.mg H S
  dat : G.clo = false → ∀ (i : Nat) (a : AV), e[i]? = some (some a) → ∃ d, a = .d d
section
variable {G : GT} {X : Cx} {σ : L2.St} {H H' : Hp} {e : PD.Env} {S S' : Sto}
theorem SR.to (h : SR G X σ H e S) (x : Ext H H') (t : LamX.Tabs G.tabs H') (s : SRel X.K X.mg H' S') : SR G X σ H' e S' :=
  ⟨h.ext.trans x, h.exx.trans x, t, h.len, h.sl, fun i a q => let ⟨v, q1, q2⟩ := h.env i a q; ⟨v, q1, q2.ext x⟩, s, h.dat⟩
theorem TExt.new {p : Addr} {o : HO} (n : H p = none) : TExt H (upd H p o) := fun b ps q => by rw [upd_ne (ne_of_none q n)]; exact q
theorem TExt.put {p : Addr} {o u : HO} (n : H p = some u) (k : ∀ ps, u ≠ .tbl ps) : TExt H (upd H p o) := fun b ps q => by
  by_cases z : b = p
  · subst z; rw [n] at q; exact absurd (Option.some.inj q) (k ps)
  · rw [upd_ne z]; exact q
theorem SR.new (h : SR G X σ H e S) {p : Addr} {o : HO} (n : H p = none) : SR G X σ (upd H p o) e S :=
  h.to (.new n) (tabs_keep h.tab (.new n) (.new n)) (h.sto.new n)
theorem SR.newl (h : SR G X σ H e S) {p : Addr} (n : H p = none) {xs : List D} {vs : List V} (r : Reps X.K X.mg H xs vs) : SR G X σ (upd H p (.lst vs)) e (sup S p (.lst xs)) :=
  h.to (.new n) (tabs_keep h.tab (.new n) (.new n)) (h.sto.newl n r)
theorem SR.setl (h : SR G X σ H e S) {p : Addr} {ws : List V} (n : H p = some (.lst ws)) {xs : List D} {vs : List V} (r : Reps X.K X.mg H xs vs) : SR G X σ (upd H p (.lst vs)) e (sup S p (.lst xs)) :=
  have x : Ext H (upd H p (.lst vs)) := .put n rfl
  h.to x (tabs_keep h.tab x (.put n fun _ z => by cases z)) (h.sto.setl n r)
end
/-- an error that is on its way -/
def XRepK (T : Tb) (K : PySem.W.Frag) (mg : Str → Option Value) (H : Hp) (x : String) (fs : List (String × D)) (cls : Value) (d : Option Addr) : Prop :=
  ∃ C, cls = .ref C ∧ mg (os x) = some (.ref C) ∧ (x, fs.map (·.1)) ∈ T.errs ∧ (fs = [] ∨ ∃ dd gs, d = some dd ∧ H dd = some (.xd gs) ∧ RepFs K mg H fs gs)
abbrev XRep (G : GT) (X : Cx) : Hp → String → List (String × D) → Value → Option Addr → Prop := XRepK G.T X.K X.mg
/-- THE READING of an expression whose deep syntax comes to w -/
def tE (G : GT) (X : Cx) (W : WX) (w : PD.Env → Sto → QV → QX → Prop) : TE := fun σ H Q => ∃ e S Q' E', SR G X σ H e S ∧ w e S Q' E' ∧
  (∀ v H' d S', Ext H H' → Rep X.K X.mg H' d v → SR G X σ H' e S' → Q' d S' → Q v H') ∧
  (∀ x fs S' cls d H', SR G X σ H' e S' → XRep G X H' x fs cls d → E' x fs S' → W cls d σ H')
section
variable {G : GT} {X : Cx} {W : WX} {σ : L2.St} {H : Hp} {Q : VK}
theorem tE.imp {w : PD.Env → Sto → QV → QX → Prop} {Q2 : VK} (h : tE G X W w σ H Q) (k : ∀ v H', Ext H H' → Q v H' → Q2 v H') : tE G X W w σ H Q2 :=
  let ⟨e, S, Q', E', sr, hw, hQ, hE⟩ := h
  ⟨e, S, Q', E', sr, hw, fun v H' d S' x r s q => k v H' x (hQ v H' d S' x r s q), hE⟩
/-- first one part, then the rest -/
theorem tE.bind {wa : PD.Env → Sto → QV → QX → Prop} {k : D → PD.Env → Sto → QV → QX → Prop} (h : tE G X W (fun e S Q E => wa e S (fun d S1 => k d e S1 Q E) E) σ H Q) :
    tE G X W wa σ H (fun v H1 => Ext H H1 ∧ ∃ d, Rep X.K X.mg H1 d v ∧ tE G X W (k d) σ H1 Q) :=
  let ⟨e, S, Q', E', sr, hw, hQ, hE⟩ := h
  ⟨e, S, fun d S1 => k d e S1 Q' E', E', sr, hw, fun v H1 d S1 x r s q => ⟨x, d, r, e, S1, Q', E', s, q, fun v' H' d' S' x' r' s' q' => hQ v' H' d' S' (x.trans x') r' s' q', hE⟩, hE⟩
end
end PS
set_option maxHeartbeats 1000000
/-! PS, part 4: operators and comparisons, by values. -/
namespace PS
open PySem PySem.Spec PyProof.Rows L2 PD

theorem PE.imp {X : Cx} {x : Expr} {t t' : TE} (h : PE X x t) (k : ∀ σ H Q, t' σ H Q → t σ H Q) : PE X x t' := ⟨fun pins s σ H Q I q => h.run pins s σ H Q I (k σ H Q q)⟩
/-- an operation told of trees -/
def rW (G : GT) (X : Cx) (W : WX) (w : D → D → Sto → QV → Prop) : R2 := fun x y H Q => ∃ σ a b, Rep X.K X.mg H a x ∧ Rep X.K X.mg H b y ∧ tE G X W (fun _ S Q _ => w a b S Q) σ H Q
section
variable {G : GT} {X : Cx} {W : WX}
/-- two expressions and an operation on their values -/
theorem tE.two {wa wb : PD.Env → Sto → QV → QX → Prop} {w : D → D → Sto → QV → Prop} {σ : L2.St} {H : Hp} {Q : VK}
    (h : tE G X W (fun e S Q E => wa e S (fun x S1 => wb e S1 (fun y S2 => w x y S2 Q) E) E) σ H Q) : tOp (rW G X W w) (tE G X W wa) (tE G X W wb) σ H Q := by
  refine (tE.bind (k := fun x e S1 Q E => wb e S1 (fun y S2 => w x y S2 Q) E) h).imp fun v H1 _ ⟨_, a, ra, h1⟩ => ?_
  exact (tE.bind (k := fun y e S2 Q E => w a y S2 Q) h1).imp fun u H2 x2 ⟨_, b, rb, h2⟩ => ⟨σ, a, b, ra.ext x2, rb, h2⟩
theorem tE.fin {w : Sto → QV → Prop} {σ : L2.St} {H : Hp} {Q : VK} (h : tE G X W (fun _ S Q _ => w S Q) σ H Q) :
    ∃ e S Q', SR G X σ H e S ∧ w S Q' ∧ ∀ v H' d S', Ext H H' → Rep X.K X.mg H' d v → SR G X σ H' e S' → Q' d S' → Q v H' :=
  let ⟨e, S, Q', _, sr, hw, hQ, _⟩ := h
  ⟨e, S, Q', sr, hw, hQ⟩
theorem cmulw {i j : Int} (h : mulOk i j) : IntMulOk i j := by
  rcases h with h | h | ⟨m, n, h1, h2, h3⟩
  · exact .of_left (intBits_le_64 (by omega) (by omega))
  · exact .of_right (intBits_le_64 (by omega) (by omega))
  · have b : ∀ (x : Int) (k : Nat), x.natAbs < 2 ^ k → Builtin.Int.intBits x ≤ k := fun x k hx => by
      unfold Builtin.Int.intBits
      split
      · exact Nat.zero_le _
      · rcases Nat.eq_zero_or_pos x.natAbs with h0 | hp
        · have z : x = 0 := by omega
          subst z
          rename_i q
          exact absurd rfl q
        · have := (Nat.log2_lt (Nat.ne_of_gt hp)).mpr hx
          omega
    have b1 := b i m h1
    have b2 := b j n h2
    have e : bitsLine = 134217728 := by decide
    unfold IntMulOk
    intro z
    rw [Bool.and_eq_true] at z
    have z2 := z.2
    unfold Builtin.Int.intTooBig at z2
    have z3 := of_decide_eq_true z2
    rw [e] at z3
    omega
theorem rep_int {K : PySem.W.Frag} {mg : Str → Option Value} {H : Hp} {i : Int} {v : V} (h : Rep K mg H (.int i) v) : v = .int i := by cases h; rfl
theorem rep_str {K : PySem.W.Frag} {mg : Str → Option Value} {H : Hp} {s : List Nat} {v : V} (h : Rep K mg H (.str s) v) : v = .str (cs s) := by cases h; rfl
theorem rep_bl {K : PySem.W.Frag} {mg : Str → Option Value} {H : Hp} {b : Bool} {v : V} (h : Rep K mg H (.bl b) v) : v = .bl b := by cases h; rfl
theorem rep_ref {K : PySem.W.Frag} {mg : Str → Option Value} {H : Hp} {a : Nat} {v : V} (h : Rep K mg H (.ref a) v) : v = .ref a := by cases h; rfl
theorem rep_tup {K : PySem.W.Frag} {mg : Str → Option Value} {H : Hp} {xs : List D} {v : V} (h : Rep K mg H (.tup xs) v) : ∃ a vs, v = .ref a ∧ SqT K H a vs ∧ Reps K mg H xs vs := by cases h with | tup h r => exact ⟨_, _, rfl, h, r⟩
theorem rep_fls {K : PySem.W.Frag} {mg : Str → Option Value} {H : Hp} {xs : List D} {v : V} (h : Rep K mg H (.fls xs) v) : ∃ a vs, v = .ref a ∧ FrL K H a vs ∧ Reps K mg H xs vs := by cases h with | fls h r => exact ⟨_, _, rfl, h, r⟩
theorem sr_lst {σ : L2.St} {H : Hp} {e : PD.Env} {S : Sto} (sr : SR G X σ H e S) {a : Nat} {xs : List D} (h : S a = some (.lst xs)) : ∃ vs, H a = some (.lst vs) ∧ Reps X.K X.mg H xs vs := sr.sto a _ h

theorem mul_reps (s : List Nat) (n : Nat) : (List.replicate n s.toArray).foldl (· ++ ·) #[] = (List.replicate n s).flatten.toArray := by
  have f : ∀ (k : Nat) (acc : List Nat), (List.replicate k s.toArray).foldl (· ++ ·) acc.toArray = (acc ++ (List.replicate k s).flatten).toArray := by
    intro k
    induction k with
    | zero => intro acc; simp
    | succ k ih =>
      intro acc
      rw [List.replicate_succ, List.foldl_cons, List.replicate_succ, List.flatten_cons]
      have e : acc.toArray ++ s.toArray = (acc ++ s).toArray := by simp
      rw [e, ih, List.append_assoc]
  have := f n []
  simpa using this
theorem op_mulS : OpR X (binaryOp .Mult) (fun x y H Q => ∃ (s : List Nat) (n : Int), x = .str (cs s) ∧ y = .int n ∧ n < 2 ^ 62 ∧ -(2 ^ 62) ≤ n ∧ s.length * n.toNat ≤ Line ∧ Q (.str (cs (rep n s))) H) := by
  intro pins s σ H x y v u Q I rx ry h
  obtain ⟨l, n, rfl, rfl, h1, h2, h3, q⟩ := h
  obtain ⟨t, rfl⟩ := rx
  obtain ⟨t', rfl⟩ := ry
  have e : PySem.Txt.mul (cs l) n = cs (rep n l) := by
    unfold PySem.Txt.mul
    by_cases h : n < 1
    · rw [if_pos h]
      have : n.toNat = 0 := by omega
      unfold rep
      rw [this]
      rfl
    · rw [if_neg h]
      by_cases h0 : (n == 1 || (cs l).length == 0) = true
      · rw [if_pos h0]
        rw [Bool.or_eq_true] at h0
        rcases h0 with h0 | h0
        · have h0 := eq_of_beq h0
          subst h0
          unfold rep
          simp
        · have h0 := eq_of_beq h0
          rw [cs_len] at h0
          have : l = [] := List.length_eq_zero_iff.mp h0
          subst this
          unfold rep
          simp
      · rw [if_neg h0]
        show Str.mk _ = Str.mk _
        rw [mul_reps]
        rfl
  refine SB.mul ⟨?_, fun k1 k2 => ?_, fun k1 k2 => ?_⟩ fun t'' k => ?_
  · rw [decide_eq_false (by omega), decide_eq_false (by omega)]; rfl
  · have hn : 1 ≤ n := by omega
    have : (l.length : Int) * n ≤ Line := by
      have := Int.ofNat_le.mpr h3
      rw [Int.natCast_mul, Int.toNat_of_nonneg (by omega)] at this
      exact this
    have g : (l.length : Int) ≤ (2 ^ 63 - 1) / n := by
      apply (Int.le_ediv_iff_mul_le (by omega)).mpr
      have : (Line : Int) ≤ 2 ^ 63 - 1 := by decide
      omega
    rw [cs_len]
    omega
  · unfold Builtin.Str.tooLong
    rw [cs_len]
    exact decide_eq_false (by rw [sizeLine_eq]; have : Line = 16777216 := rfl; omega)
  · rw [e]
    exact ⟨.str _, H, I.tok _, ⟨_, rfl⟩, q⟩
/-- the end of an operation whose answer is a plain value and that leaves the heap alone -/
theorem op_bin {o : Bo} {p : Operator} (hp : boB o p = true) : OpR X (binaryOp p) (rW G X W fun x y S Q => binW S o x y Q) := by
  intro pins s σ0 H x y v u Q I rx ry h
  obtain ⟨σ, a, b, ra, rb, h⟩ := h
  obtain ⟨e, S, Q', sr, hw, hQ⟩ := h.fin
  have run : ∀ {r : R2}, OpR X (binaryOp p) r → r x y H Q → wpAny (model X.prog X.w) X.A (binaryOp p v u) (EP X pins σ0 Q) X.xe s := fun h q => h pins s σ0 H x y v u Q I rx ry q
  have fin : ∀ {d v'}, Rep X.K X.mg H d v' → Q' d S → Q v' H := fun r q => hQ _ H _ S (.refl H) r sr q
  cases o with
  | add =>
    cases p <;> first | (cases hp; done) | skip
    cases a with
    | int i =>
      cases b with
      | int j => cases rep_int ra; cases rep_int rb; exact run op_add ⟨i, j, rfl, rfl, fin (.int _) hw⟩
      | _ => exact hw.elim
    | str i =>
      cases b with
      | str j =>
        cases rep_str ra; cases rep_str rb
        refine run op_add_str ⟨_, _, rfl, rfl, by rw [cs_len, cs_len, line_eq]; exact hw.1, ?_⟩
        rw [cs_app]
        exact fin (.str _) hw.2
      | _ => exact hw.elim
    | tup i =>
      cases b with
      | tup j =>
        obtain ⟨p, vs, rfl, hs, r1⟩ := rep_tup ra
        obtain ⟨q, ws, rfl, hs2, r2⟩ := rep_tup rb
        refine run op_catA ⟨p, q, vs, ws, rfl, rfl, hs, hs2, by rw [← r1.len, ← r2.len, line_eq]; exact hw.1, fun z => ?_, fun z z2 => ?_, fun z z2 l hl => ?_⟩
        · subst z; cases r1; exact fin rb hw.2
        · subst z2; cases r2
          have hw2 := hw.2
          rw [List.append_nil] at hw2
          exact fin ra hw2
        · exact hQ _ _ _ S (.new hl) (.tup (.of upd_same) ((r1.app r2).ext (.new hl))) (sr.new hl) hw.2
      | _ => exact hw.elim
    | ref i =>
      cases b with
      | ref j =>
        cases rep_ref ra; cases rep_ref rb
        simp only [binW] at hw
        split at hw
        · rename_i xs ys h1 h2
          obtain ⟨vs, k1, r1⟩ := sr_lst sr h1
          obtain ⟨ws, k2, r2⟩ := sr_lst sr h2
          refine run op_cat ⟨i, j, vs, ws, rfl, rfl, k1, k2, by rw [← r1.len, ← r2.len, line_eq]; exact hw.1, fun l hl => ?_⟩
          exact hQ _ _ _ _ (.new hl) (.ref l) (sr.newl hl (r1.app r2)) (hw.2 l (sr.sto.fresh hl))
        · exact hw.elim
      | _ => exact hw.elim
    | _ => cases b <;> exact hw.elim
  | sub =>
    cases p <;> first | (cases hp; done) | skip
    cases a with
    | int i =>
      cases b with
      | int j => cases rep_int ra; cases rep_int rb; exact run op_sub ⟨i, j, rfl, rfl, fin (.int _) hw⟩
      | _ => exact hw.elim
    | _ => cases b <;> exact hw.elim
  | mul =>
    cases p <;> first | (cases hp; done) | skip
    cases a with
    | int i =>
      cases b with
      | int j =>
        cases rep_int ra; cases rep_int rb
        exact run (opI (C := mulOk) (g := fun i j => i * j) fun _ _ _ _ _ _ _ hc q => mul_int q (cmulw hc)) ⟨i, j, rfl, rfl, hw.1, fin (.int _) hw.2⟩
      | _ => exact hw.elim
    | str i =>
      cases b with
      | int j => cases rep_str ra; cases rep_int rb; exact run op_mulS ⟨i, j, rfl, rfl, hw.1, hw.2.1, hw.2.2.1, fin (.str _) hw.2.2.2⟩
      | _ => exact hw.elim
    | tup i =>
      cases b with
      | int j =>
        obtain ⟨p, vs, rfl, hs, r1⟩ := rep_tup ra
        cases rep_int rb
        refine run op_repT ⟨p, j, vs, rfl, rfl, hs, fun z => hw.1 (by subst z; cases r1; rfl), hw.2.1, hw.2.2.1, by rw [← r1.len]; exact hw.2.2.2.1, fun l hl => ?_⟩
        exact hQ _ _ _ S (.new hl) (.tup (.of upd_same) ((r1.rep _).ext (.new hl))) (sr.new hl) hw.2.2.2.2
      | _ => exact hw.elim
    | ref i =>
      cases b with
      | int j =>
        cases rep_ref ra; cases rep_int rb
        simp only [binW] at hw
        split at hw
        · rename_i xs h1
          obtain ⟨vs, k1, r1⟩ := sr_lst sr h1
          refine run op_rep ⟨i, j, vs, rfl, rfl, k1, hw.1, hw.2.1, by rw [← r1.len, line_eq]; exact hw.2.2.1, fun l hl => ?_⟩
          exact hQ _ _ _ _ (.new hl) (.ref l) (sr.newl hl (r1.rep _)) (hw.2.2.2 l (sr.sto.fresh hl))
        · exact hw.elim
      | _ => exact hw.elim
    | _ => cases b <;> exact hw.elim
  | fdiv =>
    cases p <;> first | (cases hp; done) | skip
    cases a with
    | int i =>
      cases b with
      | int j =>
        cases rep_int ra; cases rep_int rb
        obtain ⟨t, rfl⟩ := rx
        obtain ⟨t', rfl⟩ := ry
        exact floordiv_int hw.1 ⟨.int (i.fdiv j), H, I.tok _, ⟨_, rfl⟩, fin (.int _) hw.2.2⟩ (.inl (PyProof.noPylong_of_log2 (PySem.Flt.log2_lt_of (by decide) hw.2.1)))
      | _ => exact hw.elim
    | _ => cases b <;> exact hw.elim
  | mod =>
    cases p <;> first | (cases hp; done) | skip
    cases a with
    | int i =>
      cases b with
      | int j => cases rep_int ra; cases rep_int rb; exact run op_modN ⟨i, j, rfl, rfl, hw.1, fin (.int _) hw.2⟩
      | _ => exact hw.elim
    | _ => cases b <;> exact hw.elim
  | pow =>
    cases p <;> first | (cases hp; done) | skip
    cases a with
    | int i =>
      cases b with
      | int j => cases rep_int ra; cases rep_int rb; exact run op_pow ⟨i, j, rfl, rfl, ⟨hw.1, hw.2.1, hw.2.2.1⟩, fin (.int _) hw.2.2.2⟩
      | _ => exact hw.elim
    | _ => cases b <;> exact hw.elim
  | _ => cases a <;> cases b <;> exact hw.elim
end
end PS
set_option maxHeartbeats 1000000
/-! PS, part 5: comparisons. -/
namespace PS
open PySem PySem.Spec PyProof.Rows L2 PD

mutual
/-- plain data as the library tells it -/
def toP : D → PyData
  | .bl b => .bool b
  | .int i => .int i
  | .str s => .str (cs s)
  | .tup xs => .tuple (toPs xs)
  | _ => .none
def toPs : List D → List PyData
  | [] => []
  | x :: xs => toP x :: toPs xs
end
mutual
theorem toP_lay : ∀ (n : Nat) (x : D), dat n x = true → (toP x).canLay0 = true ∧ (toP x).depth ≤ n
  | n, .non, _ => ⟨rfl, Nat.zero_le _⟩
  | n, .bl _, _ => ⟨rfl, Nat.zero_le _⟩
  | n, .int _, _ => ⟨rfl, Nat.zero_le _⟩
  | n, .str s, h => by
    have h' : s.all (· < 1114112) = true := by cases n <;> exact h
    refine ⟨?_, Nat.zero_le _⟩
    show (s.toArray).all (· < 0x110000) = true
    simpa using h'
  | n + 1, .tup xs, h => by
    have := toPs_lay n xs h
    refine ⟨?_, ?_⟩
    · show (PyData.tuple (toPs xs)).canLay0 = true
      simpa only [PyData.canLay0] using this.1
    · show (PyData.tuple (toPs xs)).depth ≤ n + 1
      simp only [PyData.depth]
      exact Nat.succ_le_succ this.2
  | 0, .tup xs, h => by cases h
  | n, .fls _, h => by cases n <;> cases h
  | n, .ref _, h => by cases n <;> cases h
  | n, .ty _, h => by cases n <;> cases h
  | n, .fn _, h => by cases n <;> cases h
theorem toPs_lay : ∀ (n : Nat) (xs : List D), dats n xs = true → PyData.canLayAll0 (toPs xs) = true ∧ PyData.depthAll (toPs xs) ≤ n
  | n, [], _ => ⟨rfl, Nat.zero_le _⟩
  | n, x :: xs, h => by
    have h' : (dat n x && dats n xs) = true := h
    rw [Bool.and_eq_true] at h'
    have h1 := toP_lay n x h'.1
    have h2 := toPs_lay n xs h'.2
    refine ⟨?_, ?_⟩
    · show PyData.canLayAll0 (toP x :: toPs xs) = true
      simp only [PyData.canLayAll0, h1.1, h2.1, Bool.and_self]
    · show PyData.depthAll (toP x :: toPs xs) ≤ n
      simp only [PyData.depthAll]
      exact Nat.max_le.mpr ⟨h1.2, h2.2⟩
end
theorem shaped_toP {n : Nat} (hn : n ≤ 64) {x : D} (h : dat n x = true) : SeqAt.shaped (toP x) = true := by
  have := toP_lay n x h
  unfold SeqAt.shaped
  rw [this.1, Bool.true_and]
  exact decide_eq_true (Nat.le_trans this.2 hn)
theorem shaped_list {n : Nat} (hn : n < 64) {xs : List D} (h : dats n xs = true) : SeqAt.shaped (.list (toPs xs)) = true := by
  have := toPs_lay n xs h
  have e : (PyData.list (toPs xs)).canLay0 = true := by simpa only [PyData.canLay0] using this.1
  have e2 : (PyData.list (toPs xs)).depth ≤ 64 := by
    simp only [PyData.depth]
    omega
  unfold SeqAt.shaped
  rw [e, Bool.true_and]
  exact decide_eq_true e2
theorem shaped_tuple {n : Nat} (hn : n < 64) {xs : List D} (h : dats n xs = true) : SeqAt.shaped (.tuple (toPs xs)) = true := shaped_toP (n := n + 1) hn (x := .tup xs) h
theorem cs_beq (a b : List Nat) : (cs a == cs b) = (a == b) := by
  rw [Bool.eq_iff_iff]
  simp [cs]
mutual
theorem eqv_toP : ∀ (n m : Nat) (x y : D), dat n x = true → dat m y = true → PyData.eqv (toP x) (toP y) = eqd x y
  | n, m, x, y, hx, hy => by
    cases x with
    | tup xs =>
      cases n with
      | zero => cases hx
      | succ n =>
        cases y with
        | tup ys =>
          cases m with
          | zero => cases hy
          | succ m =>
            show PyData.eqv (.tuple (toPs xs)) (.tuple (toPs ys)) = eqds xs ys
            simp only [PyData.eqv]
            exact eqvs_toP n m xs ys hx hy
        | non => simp only [toP, PyData.eqv, eqd]
        | bl _ => simp only [toP, PyData.eqv, eqd]
        | int _ => simp only [toP, PyData.eqv, eqd]
        | str _ => simp only [toP, PyData.eqv, eqd]
        | _ => cases m <;> cases hy
    | non => cases y <;> first | (simp only [toP, PyData.eqv, eqd]; done) | (cases m <;> cases hy)
    | bl a => cases y <;> first | (simp only [toP, PyData.eqv, eqd]; done) | (cases m <;> cases hy)
    | int a => cases y <;> first | (simp only [toP, PyData.eqv, eqd]; done) | (cases m <;> cases hy)
    | str a => cases y <;> first | (simp only [toP, PyData.eqv, eqd, cs_beq]; done) | (cases m <;> cases hy)
    | _ => cases n <;> cases hx
theorem eqvs_toP : ∀ (n m : Nat) (xs ys : List D), dats n xs = true → dats m ys = true → PyData.eqvAll (toPs xs) (toPs ys) = eqds xs ys
  | n, m, [], [], _, _ => by simp only [toPs, PyData.eqvAll, eqds]
  | n, m, [], _ :: _, _, _ => by simp only [toPs, PyData.eqvAll, eqds]
  | n, m, _ :: _, [], _, _ => by simp only [toPs, PyData.eqvAll, eqds]
  | n, m, x :: xs, y :: ys, hx, hy => by
    have hx' : (dat n x && dats n xs) = true := hx
    have hy' : (dat m y && dats m ys) = true := hy
    rw [Bool.and_eq_true] at hx' hy'
    simp only [toPs, PyData.eqvAll, eqds]
    rw [eqv_toP n m x y hx'.1 hy'.1, eqvs_toP n m xs ys hx'.2 hy'.2]
end
section
variable {K : PySem.W.Frag} {mg : Str → Option Value} {H : Hp}
mutual
theorem dp_of : ∀ (n : Nat) (x : D) (v : V), dat n x = true → Rep K mg H x v → Dp K H v (toP x)
  | _, .non, _, _, .non => .non
  | _, .bl b, _, _, .bl _ => .bl b
  | _, .int i, _, _, .int _ => .int i
  | _, .str s, _, _, .str _ => .str _
  | n + 1, .tup xs, _, h, .tup hs r => .tup hs (dps_of n xs _ h r)
  | 0, .tup _, _, h, _ => by cases h
  | n, .fls _, _, h, _ => by cases n <;> cases h
  | n, .ref _, _, h, _ => by cases n <;> cases h
  | n, .ty _, _, h, _ => by cases n <;> cases h
  | n, .fn _, _, h, _ => by cases n <;> cases h
theorem dps_of : ∀ (n : Nat) (xs : List D) (vs : List V), dats n xs = true → Reps K mg H xs vs → DpAll K H vs (toPs xs)
  | _, [], _, _, .nil => .nil
  | n, x :: xs, _, h, .cons r t => by
    have h' : (dat n x && dats n xs) = true := h
    rw [Bool.and_eq_true] at h'
    exact .cons (dp_of n x _ h'.1 r) (dps_of n xs _ h'.2 t)
end
theorem any_toP (n m : Nat) (x : D) (hx : dat n x = true) : ∀ (ys : List D), dats m ys = true → ((toPs ys).any fun z => PyData.eqv z (toP x)) = ys.any fun z => eqd z x
  | [], _ => rfl
  | y :: ys, h => by
    have h' : (dat m y && dats m ys) = true := h
    rw [Bool.and_eq_true] at h'
    simp only [toPs, List.any_cons]
    rw [eqv_toP m n y x h'.1 hx, any_toP n m x hx ys h'.2]
end
section
variable {G : GT} {X : Cx} {W : WX}
theorem is_bool_gen {M : Model} {A : Around} {E : Value → Shared → Prop} {s : Shared} {Q : Value → Shared → Prop} {v : Value} {b : Bool} (hv : ∀ i, v ≠ .builtin i) (h : Q (.bool (v == .bool b)) s) : wpAny M A (compareOp .Is v (.bool b)) Q E s := by
  cases v <;> first | exact wpAny_pure h | exact absurd rfl (hv _)
theorem isnot_bool_gen {M : Model} {A : Around} {E : Value → Shared → Prop} {s : Shared} {Q : Value → Shared → Prop} {v : Value} {b : Bool} (hv : ∀ i, v ≠ .builtin i) (h : Q (.bool (!(v == .bool b))) s) : wpAny M A (compareOp .IsNot v (.bool b)) Q E s := by
  cases v <;> first | exact wpAny_pure h | exact absurd rfl (hv _)
theorem isbl_rel {K : PySem.W.Frag} {mg : Str → Option Value} {H : Hp} {a : D} {x : V} {v : Value} (c : Bool) (ra : Rep K mg H a x) (rx : RelV x v) : (v == Value.bool c) = isBl c a := by
  have no : ∀ v : Value, v ≠ .bool c → (v == Value.bool c) = false := fun v h => beq_eq_false_iff_ne.mpr h
  cases ra with
  | bl b =>
    cases rx
    show (Value.bool b == Value.bool c) = (b == c)
    by_cases h : b = c
    · subst h; simp
    · rw [no _ fun z => h (Value.bool.inj z)]; simp [h]
  | int i => obtain ⟨t, rfl⟩ := rx; exact no _ fun z => by cases z
  | str i => obtain ⟨t, rfl⟩ := rx; exact no _ fun z => by cases z
  | _ => cases rx; exact no _ fun z => by cases z
/-- == told of trees -/
theorem eq_run {pins : List (Addr × Obj)} {s : Shared} {σ0 σ : L2.St} {H : Hp} {e : PD.Env} {S : Sto} (hu : X.A.units + 64 < cLine) (I : L2.Inv X pins σ0 H s) (sr : SR G X σ H e S) {a b : D} {x y : V} {v u : Value} (ra : Rep X.K X.mg H a x) (rb : Rep X.K X.mg H b y)
    (rx : RelV x v) (ry : RelV y u) {P : Bool → Prop} (h : eqW S a b P) : ∃ k, P k ∧ (∀ Q : VK, Q (.bl k) H → wpAny (model X.prog X.w) X.A (compareOp .Eq v u) (EP X pins σ0 Q) X.xe s) ∧ (∀ Q : VK, Q (.bl (!k)) H → wpAny (model X.prog X.w) X.A (compareOp .NotEq v u) (EP X pins σ0 Q) X.xe s) := by
  have gen : ∀ {d e' : PyData}, Dp X.K H x d → Dp X.K H y e' → SeqAt.shaped d = true → SeqAt.shaped e' = true → ∀ {k}, PyData.eqv d e' = k → P k →
      ∃ k, P k ∧ (∀ Q : VK, Q (.bl k) H → wpAny (model X.prog X.w) X.A (compareOp .Eq v u) (EP X pins σ0 Q) X.xe s) ∧ (∀ Q : VK, Q (.bl (!k)) H → wpAny (model X.prog X.w) X.A (compareOp .NotEq v u) (EP X pins σ0 Q) X.xe s) := fun {d e'} h1 h2 h3 h4 {k} hk hp =>
    ⟨k, hp, fun Q q => op_eqD hu pins s σ0 H x y v u Q I rx ry ⟨d, e', h1, h2, h3, h4, by rw [hk]; exact q⟩, fun Q q => op_neD hu pins s σ0 H x y v u Q I rx ry ⟨d, e', h1, h2, h3, h4, by rw [hk]; exact q⟩⟩
  have data : dat 40 a = true ∧ dat 40 b = true ∧ P (eqd a b) → _ := fun ⟨h1, h2, h3⟩ => gen (dp_of 40 a x h1 ra) (dp_of 40 b y h2 rb) (shaped_toP (by decide) h1) (shaped_toP (by decide) h2) (eqv_toP 40 40 a b h1 h2) h3
  have scalar : ∀ {k}, scal x y = true → decide (x = y) = k → P k → ∃ k, P k ∧ (∀ Q : VK, Q (.bl k) H → wpAny (model X.prog X.w) X.A (compareOp .Eq v u) (EP X pins σ0 Q) X.xe s) ∧ (∀ Q : VK, Q (.bl (!k)) H → wpAny (model X.prog X.w) X.A (compareOp .NotEq v u) (EP X pins σ0 Q) X.xe s) := fun {k} h1 h2 h3 =>
    ⟨k, h3, fun Q q => op_eq pins s σ0 H x y v u Q I rx ry ⟨h1, by rw [h2]; exact q⟩, fun Q q => op_ne pins s σ0 H x y v u Q I rx ry ⟨h1, by rw [h2]; exact q⟩⟩
  cases a with
  | int i =>
    cases b with
    | int j => cases rep_int ra; cases rep_int rb; exact scalar rfl (decide_eq_decide.mpr (by simp)) h
    | _ => exact data h
  | str i =>
    cases b with
    | str j => cases rep_str ra; cases rep_str rb; exact scalar rfl (decide_eq_decide.mpr (by simp [cs])) h
    | _ => exact data h
  | bl i =>
    cases b with
    | bl j => cases rep_bl ra; cases rep_bl rb; exact scalar rfl (decide_eq_decide.mpr (by simp)) h
    | _ => exact data h
  | ref i =>
    cases b with
    | ref j =>
      cases rep_ref ra; cases rep_ref rb
      simp only [eqW] at h
      split at h
      · rename_i xs ys h1 h2
        obtain ⟨vs, k1, r1⟩ := sr_lst sr h1
        obtain ⟨ws, k2, r2⟩ := sr_lst sr h2
        obtain ⟨d1, d2, hp⟩ := h
        exact gen (.lst (.of k1) (dps_of 40 xs vs d1 r1)) (.lst (.of k2) (dps_of 40 ys ws d2 r2)) (shaped_list (by decide) d1) (shaped_list (by decide) d2) (by simp only [PyData.eqv]; exact eqvs_toP 40 40 xs ys d1 d2) hp
      · exact h.elim
    | _ => exact data h
  | _ => exact data h
/-- in told of trees -/
theorem in_run {pins : List (Addr × Obj)} {s : Shared} {σ0 σ : L2.St} {H : Hp} {e : PD.Env} {S : Sto} (hu : X.A.units + 65 < cLine) (I : L2.Inv X pins σ0 H s) (sr : SR G X σ H e S) {a b : D} {x y : V} {v u : Value} (ra : Rep X.K X.mg H a x) (rb : Rep X.K X.mg H b y)
    (rx : RelV x v) (ry : RelV y u) {P : Bool → Prop} (h : inW S a b P) : ∃ k, P k ∧ (∀ Q : VK, Q (.bl k) H → wpAny (model X.prog X.w) X.A (compareOp .In v u) (EP X pins σ0 Q) X.xe s) ∧ (∀ Q : VK, Q (.bl (!k)) H → wpAny (model X.prog X.w) X.A (compareOp .NotIn v u) (EP X pins σ0 Q) X.xe s) := by
  have lst : ∀ {ys : List D} {p : Addr} {ws : List V}, y = .ref p → SqL X.K H p ws → Reps X.K X.mg H ys ws → dat 40 a = true → dats 40 ys = true → P (ys.any fun z => eqd z a) → _ := fun {ys p ws} e1 hs r h1 h2 hp =>
    (⟨_, hp, fun Q q => op_inD hu pins s σ0 H x y v u Q I rx ry ⟨toP a, toPs ys, dp_of 40 a x h1 ra, by rw [e1]; exact .lst hs (dps_of 40 ys ws h2 r), shaped_toP (by decide) h1, shaped_list (by decide) h2, by rw [any_toP 40 40 a h1 ys h2]; exact q⟩,
      fun Q q => op_notInD hu pins s σ0 H x y v u Q I rx ry ⟨toP a, toPs ys, dp_of 40 a x h1 ra, by rw [e1]; exact .lst hs (dps_of 40 ys ws h2 r), shaped_toP (by decide) h1, shaped_list (by decide) h2, by rw [any_toP 40 40 a h1 ys h2]; exact q⟩⟩ :
      ∃ k, P k ∧ (∀ Q : VK, Q (.bl k) H → wpAny (model X.prog X.w) X.A (compareOp .In v u) (EP X pins σ0 Q) X.xe s) ∧ (∀ Q : VK, Q (.bl (!k)) H → wpAny (model X.prog X.w) X.A (compareOp .NotIn v u) (EP X pins σ0 Q) X.xe s))
  cases b with
  | str t =>
    cases a with
    | str s' =>
      cases s' with
      | nil => exact h.elim
      | cons c r =>
        cases r with
        | nil =>
          cases rep_str ra; cases rep_str rb
          refine ⟨_, h, fun Q q => op_in_sign pins s σ0 H _ _ v u Q I rx ry ⟨c, cs t, rfl, rfl, ?_⟩, fun Q q => op_notIn_sign pins s σ0 H _ _ v u Q I rx ry ⟨c, cs t, rfl, rfl, ?_⟩⟩
          · exact q
          · exact q
        | cons _ _ => exact h.elim
    | _ => exact h.elim
  | tup ys =>
    have h' : dat 40 a = true ∧ dats 40 ys = true ∧ P (ys.any fun z => eqd z a) := h
    obtain ⟨h1, h2, hp⟩ := h'
    obtain ⟨p, ws, rfl, hs, r⟩ := rep_tup rb
    have dx := dp_of 40 a x h1 ra
    have dy : Dp X.K H (.ref p) (.tuple (toPs ys)) := .tup hs (dps_of 40 ys ws h2 r)
    obtain ⟨as, r1⟩ := Dp.reads I _ x v dx rx
    obtain ⟨bs, r2⟩ := Dp.reads I _ _ u dy ry
    have sx := shaped_toP (by decide) h1
    have sy := shaped_tuple (by decide) h2
    refine ⟨_, hp, fun Q q => ?_, fun Q q => ?_⟩
    · exact SeqAt.in_tuple_reads r2 r1 (toPs_lay 40 ys h2).1 (SeqAt.canLay_of_shaped sx) (room_in_shaped sx hu) ⟨.bl _, H, I, rfl, by rw [any_toP 40 40 a h1 ys h2]; exact q⟩
    · exact SeqAt.notIn_tuple_reads r2 r1 (toPs_lay 40 ys h2).1 (SeqAt.canLay_of_shaped sx) (room_in_shaped sx hu) ⟨.bl _, H, I, rfl, by rw [any_toP 40 40 a h1 ys h2]; exact q⟩
  | ref p =>
    cases rep_ref rb
    have h' : match S p with | some (.lst ys) => dat 40 a = true ∧ dats 40 ys = true ∧ P (ys.any fun z => eqd z a) | _ => False := h
    split at h'
    · rename_i ys k1
      obtain ⟨ws, k2, r⟩ := sr_lst sr k1
      exact lst rfl (.of k2) r h'.1 h'.2.1 h'.2.2
    · exact h'.elim
  | _ => exact h.elim
theorem op_cmp (hu : X.A.units + 65 < cLine) {o : Co} {p : CmpOp} (hp : coB o p = true) : OpR X (compareOp p) (rW G X W fun x y S Q => cmpW S o x y fun k => Q (.bl k) S) := by
  intro pins s σ0 H x y v u Q I rx ry h
  obtain ⟨σ, a, b, ra, rb, h⟩ := h
  obtain ⟨e, S, Q', sr, hw, hQ⟩ := h.fin
  have run : ∀ {r : R2}, OpR X (compareOp p) r → r x y H Q → wpAny (model X.prog X.w) X.A (compareOp p v u) (EP X pins σ0 Q) X.xe s := fun h q => h pins s σ0 H x y v u Q I rx ry q
  have fin : ∀ {k}, Q' (.bl k) S → Q (.bl k) H := fun q => hQ _ H _ S (.refl H) (.bl _) sr q
  have isr : ∀ {P : Bool → Prop}, isW a b P → ∃ k, P k ∧ (∀ Q : VK, Q (.bl k) H → wpAny (model X.prog X.w) X.A (compareOp .Is v u) (EP X pins σ0 Q) X.xe s) ∧ (∀ Q : VK, Q (.bl (!k)) H → wpAny (model X.prog X.w) X.A (compareOp .IsNot v u) (EP X pins σ0 Q) X.xe s) := fun {P} h => by
    cases b with
    | non =>
      cases rb
      cases ry
      refine ⟨isNon a, h, fun Q q => is_none_gen ⟨_, H, I, ?_, q⟩, fun Q q => isnot_none_gen ⟨_, H, I, ?_, q⟩⟩
      · cases ra <;> first | (cases rx; rfl) | (obtain ⟨t, rfl⟩ := rx; rfl)
      · cases ra <;> first | (cases rx; rfl) | (obtain ⟨t, rfl⟩ := rx; rfl)
    | bl c =>
      cases rb
      cases ry
      have nb : ∀ i, v ≠ .builtin i := fun i z => by
        subst z
        cases ra <;> first | (cases rx; done) | (obtain ⟨t, q⟩ := rx; cases q)
      refine ⟨isBl c a, h, fun Q q => is_bool_gen nb ⟨_, H, I, ?_, q⟩, fun Q q => isnot_bool_gen nb ⟨_, H, I, ?_, q⟩⟩
      · show Value.bool _ = Value.bool _
        rw [isbl_rel c ra rx]
      · show Value.bool _ = Value.bool _
        rw [isbl_rel c ra rx]
    | _ => exact h.elim
  cases o with
  | eq =>
    cases p <;> first | (cases hp; done) | skip
    obtain ⟨k, q, h1, _⟩ := eq_run (P := (fun k => Q' (.bl k) S)) (by omega) I sr ra rb rx ry hw
    exact h1 Q (fin q)
  | ne =>
    cases p <;> first | (cases hp; done) | skip
    obtain ⟨k, q, _, h1⟩ := eq_run (P := (fun k => Q' (.bl (!k)) S)) (by omega) I sr ra rb rx ry hw
    exact h1 Q (fin q)
  | «is» =>
    cases p <;> first | (cases hp; done) | skip
    obtain ⟨k, q, h1, _⟩ := isr (P := (fun k => Q' (.bl k) S)) hw
    exact h1 Q (fin q)
  | isnot =>
    cases p <;> first | (cases hp; done) | skip
    obtain ⟨k, q, _, h1⟩ := isr (P := (fun k => Q' (.bl (!k)) S)) hw
    exact h1 Q (fin q)
  | inn =>
    cases p <;> first | (cases hp; done) | skip
    obtain ⟨k, q, h1, _⟩ := in_run (P := (fun k => Q' (.bl k) S)) hu I sr ra rb rx ry hw
    exact h1 Q (fin q)
  | notin =>
    cases p <;> first | (cases hp; done) | skip
    obtain ⟨k, q, _, h1⟩ := in_run (P := (fun k => Q' (.bl (!k)) S)) hu I sr ra rb rx ry hw
    exact h1 Q (fin q)
  | lt =>
    cases p <;> first | (cases hp; done) | skip
    cases a <;> cases b <;> first | (exact hw.elim) | skip
    · cases rep_int ra; cases rep_int rb; exact run op_lt ⟨_, _, rfl, rfl, fin hw⟩
    · cases rep_str ra; cases rep_str rb; exact run op_lt_str ⟨_, _, rfl, rfl, fin hw⟩
  | le =>
    cases p <;> first | (cases hp; done) | skip
    cases a <;> cases b <;> first | (exact hw.elim) | skip
    · cases rep_int ra; cases rep_int rb; exact run op_le ⟨_, _, rfl, rfl, fin hw⟩
    · cases rep_str ra; cases rep_str rb; exact run op_le_str ⟨_, _, rfl, rfl, fin hw⟩
  | gt =>
    cases p <;> first | (cases hp; done) | skip
    cases a <;> cases b <;> first | (exact hw.elim) | skip
    · cases rep_int ra; cases rep_int rb; exact run op_gt ⟨_, _, rfl, rfl, fin hw⟩
    · cases rep_str ra; cases rep_str rb; exact run op_gt_str ⟨_, _, rfl, rfl, fin hw⟩
  | ge =>
    cases p <;> first | (cases hp; done) | skip
    cases a <;> cases b <;> first | (exact hw.elim) | skip
    · cases rep_int ra; cases rep_int rb; exact run op_ge ⟨_, _, rfl, rfl, fin hw⟩
    · cases rep_str ra; cases rep_str rb; exact run op_ge_str ⟨_, _, rfl, rfl, fin hw⟩
end
end PS
set_option maxHeartbeats 1000000
/-! PS, part 6: truth, items, slices, built-in functions and methods, by values. -/
namespace PS
open PySem PySem.Spec PyProof.Rows L2 PD

section
variable {G : GT} {X : Cx} {W : WX}
theorem isEmpty_len {α β : Type} {xs : List α} {ys : List β} (h : xs.length = ys.length) : xs.isEmpty = ys.isEmpty := by
  cases xs <;> cases ys <;> first | rfl | cases h
/-- truth -/
theorem tru_of {σ : L2.St} {H : Hp} {e : PD.Env} {S : Sto} (sr : SR G X σ H e S) {d : D} {v : V} (r : Rep X.K X.mg H d v) {k : Bool} (h : tru S d = some k) : TruV X.K v H k := by
  cases d with
  | non => cases r; exact (Option.some.inj h).symm
  | bl b => cases r; exact (Option.some.inj h).symm
  | int i => cases r; exact (Option.some.inj h).symm
  | str s =>
    cases r
    simp only [tru] at h
    split at h
    · rename_i hs
      refine ⟨by rw [cs_len, line_eq]; exact hs, ?_⟩
      rw [cs_len, ← Option.some.inj h]
      cases s with
      | nil => rfl
      | cons a s =>
        simp only [List.isEmpty_cons, Bool.not_false, List.length_cons]
        exact (bne_iff_ne.mpr (by omega)).symm
    · cases h
  | tup xs =>
    obtain ⟨a, vs, rfl, hs, q⟩ := rep_tup r
    refine .inr (.inl ⟨vs, hs, ?_⟩)
    rw [← Option.some.inj h, isEmpty_len q.len]
  | fls xs =>
    obtain ⟨a, vs, rfl, hs, q⟩ := rep_fls r
    refine .inl ⟨vs, hs.sq, ?_⟩
    rw [← Option.some.inj h, isEmpty_len q.len]
  | ref a =>
    cases rep_ref r
    simp only [tru] at h
    split at h
    · rename_i xs k1
      obtain ⟨vs, k2, q⟩ := sr_lst sr k1
      refine .inl ⟨vs, .of k2, ?_⟩
      rw [← Option.some.inj h, isEmpty_len q.len]
    · rename_i kvs k1
      exact (sr.sto a _ k1).elim
    · cases h
  | _ => cases h
/-- a sequence, as it is read -/
theorem items_sq {σ : L2.St} {H : Hp} {e : PD.Env} {S : Sto} (sr : SR G X σ H e S) {d : D} {v : V} (r : Rep X.K X.mg H d v) {xs : List D} (h : itemsOf S d = some xs) :
    (∃ p vs, v = .ref p ∧ (SqL X.K H p vs ∨ SqT X.K H p vs) ∧ Reps X.K X.mg H xs vs ∧ ∀ s, d ≠ .str s) ∨ ∃ s, d = .str s ∧ xs = s.map fun c => .str [c] := by
  cases d with
  | tup ys => obtain ⟨a, vs, rfl, hs, q⟩ := rep_tup r; cases h; exact .inl ⟨a, vs, rfl, .inr hs, q, fun s z => by cases z⟩
  | fls ys => obtain ⟨a, vs, rfl, hs, q⟩ := rep_fls r; cases h; exact .inl ⟨a, vs, rfl, .inl hs.sq, q, fun s z => by cases z⟩
  | str s => cases h; exact .inr ⟨s, rfl, rfl⟩
  | ref a =>
    cases rep_ref r
    simp only [itemsOf] at h
    split at h
    · rename_i ys k1
      cases h
      obtain ⟨vs, k2, q⟩ := sr_lst sr k1
      exact .inl ⟨a, vs, rfl, .inl (.of k2), q, fun s z => by cases z⟩
    · cases h
  | _ => cases h
theorem atI_of {α : Type} {xs : List α} {i : Int} {k : Nat} {v : α} (h : place xs.length i = some k) (e : xs[k]? = some v) : atI xs i = some v := by
  unfold atI
  rw [show ixN xs.length i = some k from h]
  exact e
theorem place_len {α β : Type} {xs : List α} {ys : List β} (h : xs.length = ys.length) {i : Int} {k : Nat} (p : place xs.length i = some k) : place ys.length i = some k := by rw [← h]; exact p
/-- a[i] -/
theorem ix_tree : IxR X (rW G X W fun x y S Q => idxW S x y fun d => Q d S) := by
  intro value slice pins s σ0 H x y v u Q I rx ry h hs
  obtain ⟨σ, a, b, ra, rb, h⟩ := h
  obtain ⟨e, S, Q', sr, hw, hQ⟩ := h.fin
  have fin : ∀ {d v'}, Rep X.K X.mg H d v' → Q' d S → Q v' H := fun r q => hQ _ H _ S (.refl H) r sr q
  cases b with
  | int i =>
    cases rep_int rb
    cases a with
    | tup xs =>
      obtain ⟨p, vs, rfl, hq, r⟩ := rep_tup ra
      obtain ⟨k, d, h1, h2, q⟩ := hw
      obtain ⟨w, h3, rw'⟩ := r.get h2
      exact ix_tup value slice pins s σ0 H _ _ v u Q I rx ry ⟨p, vs, i, w, rfl, rfl, hq, atI_of (place_len r.len h1) h3, fin rw' q⟩ hs
    | fls xs =>
      obtain ⟨p, vs, rfl, hq, r⟩ := rep_fls ra
      obtain ⟨k, d, h1, h2, q⟩ := hw
      obtain ⟨w, h3, rw'⟩ := r.get h2
      exact ix_list value slice pins s σ0 H _ _ v u Q I rx ry ⟨p, vs, i, w, rfl, rfl, hq.sq, atI_of (place_len r.len h1) h3, fin rw' q⟩ hs
    | ref p =>
      cases rep_ref ra
      simp only [idxW] at hw
      split at hw
      · rename_i xs k1
        obtain ⟨vs, k2, r⟩ := sr_lst sr k1
        obtain ⟨k, d, h1, h2, q⟩ := hw
        obtain ⟨w, h3, rw'⟩ := r.get h2
        exact ix_list value slice pins s σ0 H _ _ v u Q I rx ry ⟨p, vs, i, w, rfl, rfl, .of k2, atI_of (place_len r.len h1) h3, fin rw' q⟩ hs
      · exact hw.elim
    | str l =>
      cases rep_str ra
      obtain ⟨hl, k, c, h1, h2, q⟩ := hw
      exact ix_str value slice pins s σ0 H _ _ v u Q I rx ry ⟨cs l, i, c, rfl, rfl, by rw [cs_len, line_eq]; exact hl, atI_of (xs := l) h1 h2, fin (.str [c]) q⟩ hs
    | _ => exact hw.elim
  | _ => cases a <;> exact hw.elim
/-- what a slice is told of -/
def rSlW (G : GT) (X : Cx) (W : WX) : V → Option Int → Option Int → Hp → VK → Prop := fun x lo hi H Q => ∃ σ a, Rep X.K X.mg H a x ∧ tE G X W (fun _ S Q _ => slcW S a lo hi Q) σ H Q
theorem sl_tree : SlR X (rSlW G X W) := by
  intro pins s σ0 H x v vl vu lo hi sl Q I rx hs pl pu h
  obtain ⟨σ, a, ra, h⟩ := h
  obtain ⟨e, S, Q', sr, hw, hQ⟩ := h.fin
  cases a with
  | tup xs =>
    obtain ⟨p, vs, rfl, hq, r⟩ := rep_tup ra
    refine sl_tupA pins s σ0 H _ v vl vu lo hi sl Q I rx hs pl pu ⟨p, vs, rfl, hq, fun z => ?_, fun _ l hl => ?_⟩
    · have e1 : cutL xs lo hi = xs := by
        unfold cutL
        rw [cut_eq, cut_eq, r.len, z.1, z.2, List.drop_zero, Nat.sub_zero, ← r.len, List.take_length]
      have hw' : Q' (.tup (cutL xs lo hi)) S := hw
      rw [e1] at hw'
      exact hQ _ H _ S (.refl H) (.tup hq r) sr hw'
    · exact hQ _ _ _ S (.new hl) (.tup (.of upd_same) ((r.cut lo hi).ext (.new hl))) (sr.new hl) hw
  | fls xs =>
    obtain ⟨p, vs, rfl, hq, r⟩ := rep_fls ra
    refine sl_list pins s σ0 H _ v vl vu lo hi sl Q I rx hs pl pu ⟨p, vs, rfl, hq.sq, fun l hl => ?_⟩
    exact hQ _ _ _ _ (.new hl) (.ref l) (sr.newl hl (r.cut lo hi)) (hw l (sr.sto.fresh hl))
  | ref p =>
    cases rep_ref ra
    simp only [slcW] at hw
    split at hw
    · rename_i xs k1
      obtain ⟨vs, k2, r⟩ := sr_lst sr k1
      refine sl_list pins s σ0 H _ v vl vu lo hi sl Q I rx hs pl pu ⟨p, vs, rfl, .of k2, fun l hl => ?_⟩
      exact hQ _ _ _ _ (.new hl) (.ref l) (sr.newl hl (r.cut lo hi)) (hw l (sr.sto.fresh hl))
    · exact hw.elim
  | str l =>
    cases rep_str ra
    refine sl_str pins s σ0 H _ v vl vu lo hi sl Q I rx hs pl pu ⟨cs l, rfl, by rw [cs_len, line_eq]; exact hw.1, ?_⟩
    have e1 : cutS (cs l) lo hi = cs (cutL l lo hi) := by
      unfold cutS cutL cs
      rw [cut_eq, cut_eq]
      rw [show (Str.mk l.toArray).length = l.length by simp [Str.length]]
    rw [e1]
    exact hQ _ H _ S (.refl H) (.str _) sr hw.2
  | _ => exact hw.elim
end
end PS
set_option maxHeartbeats 1000000
/-! PS, part 7: built-in functions and methods. -/
namespace PS
open PySem PySem.Spec PyProof.Rows L2 PD

def bltV : Bi → Value
  | .int => .type "int" | .str => .type "str" | .tuple => .type "tuple" | .list => .type "list" | .bool => .type "bool"
  | .gcd => .builtin "math.gcd"
  | .len => .builtin "len" | .abs => .builtin "abs" | .isinstance => .builtin "isinstance" | .all => .builtin "all" | .any => .builtin "any"
  | .sum => .builtin "sum" | .max => .builtin "max" | .min => .builtin "min" | .sorted => .builtin "sorted"
section
variable {G : GT} {X : Cx} {W : WX}
def rB (G : GT) (X : Cx) (W : WX) (b : Bi) : List V → Hp → VK → Prop := fun vs H Q => ∃ σ ds, Reps X.K X.mg H ds vs ∧ tE G X W (fun _ S Q _ => bltW S b ds Q) σ H Q
theorem reps1 {K : PySem.W.Frag} {mg : Str → Option Value} {H : Hp} {x : D} {vs : List V} (h : Reps K mg H [x] vs) : ∃ v, vs = [v] ∧ Rep K mg H x v := by
  cases h with | cons r t => cases t; exact ⟨_, rfl, r⟩
theorem reps2 {K : PySem.W.Frag} {mg : Str → Option Value} {H : Hp} {x y : D} {vs : List V} (h : Reps K mg H [x, y] vs) : ∃ v w, vs = [v, w] ∧ Rep K mg H x v ∧ Rep K mg H y w := by
  cases h with | cons r t => cases t with | cons r2 t2 => cases t2; exact ⟨_, _, rfl, r, r2⟩
theorem bls_vals {K : PySem.W.Frag} {mg : Str → Option Value} {H : Hp} : ∀ {xs : List D} {vs : List V} {bs : List Bool}, Reps K mg H xs vs → blsOf xs = some bs → vs = bs.map V.bl
  | _, _, _, .nil, h => by cases h; rfl
  | .bl b :: xs, _, bs, .cons r t, h => by
    cases r
    simp only [blsOf, Option.map_eq_some_iff] at h
    obtain ⟨bs', h1, rfl⟩ := h
    rw [bls_vals t h1]
    rfl
  | .non :: _, _, _, .cons _ _, h => by cases h
  | .int _ :: _, _, _, .cons _ _, h => by cases h
  | .str _ :: _, _, _, .cons _ _, h => by cases h
  | .tup _ :: _, _, _, .cons _ _, h => by cases h
  | .fls _ :: _, _, _, .cons _ _, h => by cases h
  | .ref _ :: _, _, _, .cons _ _, h => by cases h
  | .ty _ :: _, _, _, .cons _ _, h => by cases h
  | .fn _ :: _, _, _, .cons _ _, h => by cases h
theorem strs_vals {K : PySem.W.Frag} {mg : Str → Option Value} {H : Hp} : ∀ {xs : List D} {vs : List V} {bs : List (List Nat)}, Reps K mg H xs vs → strsOf xs = some bs → vs = (bs.map cs).map V.str
  | _, _, _, .nil, h => by cases h; rfl
  | .str b :: xs, _, bs, .cons r t, h => by
    cases r
    simp only [strsOf, Option.map_eq_some_iff] at h
    obtain ⟨bs', h1, rfl⟩ := h
    rw [strs_vals t h1]
    rfl
  | .non :: _, _, _, .cons _ _, h => by cases h
  | .int _ :: _, _, _, .cons _ _, h => by cases h
  | .bl _ :: _, _, _, .cons _ _, h => by cases h
  | .tup _ :: _, _, _, .cons _ _, h => by cases h
  | .fls _ :: _, _, _, .cons _ _, h => by cases h
  | .ref _ :: _, _, _, .cons _ _, h => by cases h
  | .ty _ :: _, _, _, .cons _ _, h => by cases h
  | .fn _ :: _, _, _, .cons _ _, h => by cases h
theorem bls_str : ∀ (s : List Nat) (bs : List Bool), blsOf (s.map fun c => D.str [c]) = some bs → s = [] ∧ bs = []
  | [], bs, h => by cases h; exact ⟨rfl, rfl⟩
  | c :: s, bs, h => by cases h
/-- any, all of a tuple of bools too -/
theorem kit_tab : ∀ t ∈ ["NoneType", "bool", "int", "str", "tuple", "list", "dict"], ∀ n ∈ tyNs, kitB t n = some (t == n || (t == "bool" && n == "int")) := by decide +kernel
theorem ty_of {σ : L2.St} {H : Hp} {e : PD.Env} {S : Sto} (sr : SR G X σ H e S) {d : D} {v : V} (r : Rep X.K X.mg H d v) {t : String} (h : tyOf S d = some t) : TyX X.K H v (.type t) ∧ t ∈ ["NoneType", "bool", "int", "str", "tuple", "list", "dict"] := by
  cases d with
  | non => cases r; cases h; exact ⟨.base .non, by decide⟩
  | bl b => cases r; cases h; exact ⟨.base (.bl b), by decide⟩
  | int i => cases r; cases h; exact ⟨.base (.int i), by decide⟩
  | str s => cases r; cases h; exact ⟨.base (.str _), by decide⟩
  | tup xs =>
    obtain ⟨a, vs, rfl, hs, q⟩ := rep_tup r
    cases h
    refine ⟨?_, by decide⟩
    rcases hs with (hs | ⟨o, hs⟩) | ⟨o, its, n, hk, hc, _⟩
    · exact .base (.tup hs)
    · exact .fTuple hs
    · exact .kTuple hk hc
  | fls xs =>
    obtain ⟨a, vs, rfl, hs, q⟩ := rep_fls r
    cases h
    refine ⟨?_, by decide⟩
    rcases hs with ⟨o, hs⟩ | ⟨o, its, n, hk, hc, _⟩
    · exact .base (.frz hs)
    · exact .kList hk hc
  | ref a =>
    cases rep_ref r
    simp only [tyOf] at h
    split at h
    · rename_i ys k1
      obtain ⟨vs, k2, q⟩ := sr_lst sr k1
      cases h
      exact ⟨.base (.lst k2), by decide⟩
    · rename_i ys k1
      exact (sr.sto a _ k1).elim
    · cases h
  | _ => cases h
theorem ints_vals {K : PySem.W.Frag} {mg : Str → Option Value} {H : Hp} : ∀ {ns : List Int} {vs : List V}, Reps K mg H (ns.map .int) vs → vs = ns.map V.int
  | [], _, .nil => rfl
  | n :: ns, _, .cons r t => by
    cases r
    rw [ints_vals t]
    rfl
theorem reads_ints {h : Heap} : ∀ {ns : List Int} {us : List Value}, Vals (ns.map V.int) us → ∃ as, ReadsAll h us (ns.map PyData.int) as
  | [], _, .nil => ⟨[], .nil⟩
  | n :: ns, _, .cons r t => by
    obtain ⟨tk, rfl⟩ := r
    obtain ⟨as, h⟩ := reads_ints t
    exact ⟨[] ++ as, .cons (.int n tk) h⟩
theorem alike_ints (ns : List Int) : PySem.W.AlikeAll (ns.map PyData.int) := ⟨fun x hx y hy => by
  obtain ⟨i, _, rfl⟩ := List.mem_map.mp hx
  obtain ⟨j, _, rfl⟩ := List.mem_map.mp hy
  rfl, fun x hx => by
  obtain ⟨i, _, rfl⟩ := List.mem_map.mp hx
  exact fun z => by cases z⟩
theorem depth_ints : ∀ ns : List Int, PyData.depthAll (ns.map PyData.int) ≤ 1
  | [] => by simp [PyData.depthAll]
  | n :: ns => by
    have := depth_ints ns
    simp only [List.map_cons, PyData.depthAll, PyData.depth]
    omega
theorem blt_tree (b : Bi) (hu : X.A.units + 65 < cLine) (hc : b = .all ∨ b = .any ∨ b = .max ∨ b = .min ∨ b = .sum → X.calm = true) : CallR X (bltV b) (rB G X W b) := by
  intro pins s σ0 H vs us Q I rv h
  obtain ⟨σ, ds, rd, h⟩ := h
  obtain ⟨e, S, Q', sr, hw, hQ⟩ := h.fin
  have fin : ∀ {d v'}, Rep X.K X.mg H d v' → Q' d S → Q v' H := fun r q => hQ _ H _ S (.refl H) r sr q
  have run : ∀ {r : List V → Hp → VK → Prop}, CallR X (bltV b) r → r vs H Q → wpAny (model X.prog X.w) X.A (call (bltV b) us) (EP X pins σ0 Q) X.xe s := fun h q => h pins s σ0 H vs us Q I rv q
  have seq : ∀ {x : D} {v : V}, Rep X.K X.mg H x v → ∀ {xs : List D}, itemsOf S x = some xs → (∀ s, x ≠ .str s) → ∃ p ys, v = .ref p ∧ (SqL X.K H p ys ∨ SqT X.K H p ys) ∧ Reps X.K X.mg H xs ys := fun {x v} r {xs} h ns => by
    rcases items_sq sr r h with ⟨p, ys, h1, h2, h3, _⟩ | ⟨s, h1, _⟩
    · exact ⟨p, ys, h1, h2, h3⟩
    · exact absurd h1 (ns s)
  cases b with
  | len =>
    cases ds with
    | nil => exact hw.elim
    | cons x r =>
      cases r with
      | cons _ _ => cases x <;> exact hw.elim
      | nil =>
        obtain ⟨v, rfl, r1⟩ := reps1 rd
        cases x with
        | str l => cases rep_str r1; exact run call_len ⟨_, l.length, rfl, ⟨by rw [cs_len, line_eq]; exact hw.1, by rw [cs_len]⟩, fin (.int _) hw.2⟩
        | tup xs =>
          obtain ⟨p, ys, rfl, hs, q⟩ := rep_tup r1
          refine run call_len ⟨_, ys.length, rfl, .inr ⟨ys, hs, rfl⟩, ?_⟩
          have hz := (I.tuple hs).choose_spec.2.2
          rw [← q.len] at hz ⊢
          exact fin (.int _) (hw (by rw [← line_eq]; exact hz))
        | fls xs =>
          obtain ⟨p, ys, rfl, hs, q⟩ := rep_fls r1
          refine run call_len ⟨_, ys.length, rfl, .inl ⟨ys, hs.sq, rfl⟩, ?_⟩
          have hz := (I.list hs.sq).choose_spec.2.2
          rw [← q.len] at hz ⊢
          exact fin (.int _) (hw (by rw [← line_eq]; exact hz))
        | ref a =>
          cases rep_ref r1
          simp only [bltW] at hw
          split at hw
          · rename_i xs k1
            obtain ⟨ys, k2, q⟩ := sr_lst sr k1
            refine run call_len ⟨_, ys.length, rfl, .inl ⟨ys, .of k2, rfl⟩, ?_⟩
            have hz := (I.list (.of k2)).choose_spec.2.2
            rw [← q.len] at hz ⊢
            exact fin (.int _) (hw (by rw [← line_eq]; exact hz))
          · exact hw.elim
        | _ => exact hw.elim
  | abs =>
    cases ds with
    | nil => exact hw.elim
    | cons x r =>
      cases r with
      | cons _ _ => cases x <;> exact hw.elim
      | nil =>
        obtain ⟨v, rfl, r1⟩ := reps1 rd
        cases x with
        | int i => cases rep_int r1; exact run call_abs ⟨i, rfl, fin (.int _) hw⟩
        | _ => exact hw.elim
  | int =>
    cases ds with
    | nil => exact hw.elim
    | cons x r =>
      cases r with
      | cons _ _ => cases x <;> exact hw.elim
      | nil =>
        obtain ⟨v, rfl, r1⟩ := reps1 rd
        cases x with
        | int i => cases rep_int r1; exact run call_int1 (.inl ⟨i, rfl, fin (.int _) hw⟩)
        | bl i => cases rep_bl r1; exact run call_int1 (.inr ⟨i, rfl, fin (.int _) hw⟩)
        | _ => exact hw.elim
  | tuple =>
    cases ds with
    | nil => exact hw.elim
    | cons x r =>
      cases r with
      | cons _ _ => exact hw.elim
      | nil =>
        obtain ⟨v, rfl, r1⟩ := reps1 rd
        obtain ⟨xs, h1, h2, q⟩ := hw
        obtain ⟨p, ys, rfl, hs, r⟩ := seq r1 h1.1 h1.2
        rcases hs with hs | hs
        · refine run call_tuple_of ⟨p, ys, rfl, .inl ⟨hs, fun l hl => ?_⟩⟩
          exact hQ _ _ _ S (.new hl) (.tup (.of upd_same) (r.ext (.new hl))) (sr.new hl) q
        · exact run call_tuple_of ⟨p, ys, rfl, .inr ⟨hs, fin (.tup hs r) q⟩⟩
  | list =>
    cases ds with
    | nil => exact hw.elim
    | cons x r =>
      cases r with
      | cons _ _ => exact hw.elim
      | nil =>
        obtain ⟨v, rfl, r1⟩ := reps1 rd
        obtain ⟨xs, h1, h2, q⟩ := hw
        obtain ⟨p, ys, rfl, hs, r⟩ := seq r1 h1.1 h1.2
        refine run call_list_of ⟨p, ys, rfl, hs, fun l hl => ?_⟩
        exact hQ _ _ _ _ (.new hl) (.ref l) (sr.newl hl r) (q l (sr.sto.fresh hl))
  | isinstance =>
    cases ds with
    | nil => exact hw.elim
    | cons x r =>
      cases r with
      | nil => exact hw.elim
      | cons y r =>
        cases r with
        | cons _ _ => exact hw.elim
        | nil =>
          obtain ⟨v, w, rfl, r1, r2⟩ := reps2 rd
          obtain ⟨k, h1, q⟩ := hw
          cases y with
          | ty n =>
            cases r2
            simp only [isinst] at h1
            split at h1
            · rename_i hn
              obtain ⟨t, ht, hk⟩ := Option.map_eq_some_iff.mp h1
              obtain ⟨z1, z2⟩ := ty_of sr r1 ht
              refine run call_isi ⟨v, .ty n, .type t, .type n, k, rfl, .ty n, z1, kit_ty ?_, fin (.bl _) q⟩
              rw [kit_tab t z2 n (by simpa using hn), ← hk]
            · cases h1
          | _ => cases h1
  | all =>
    cases ds with
    | nil => exact hw.elim
    | cons x r =>
      cases r with
      | cons _ _ => exact hw.elim
      | nil =>
        obtain ⟨v, rfl, r1⟩ := reps1 rd
        obtain ⟨xs, bs, h1, h2, q⟩ := hw
        obtain ⟨a, rfl, k1⟩ := h1
        cases rep_ref r1
        obtain ⟨ys, k2, r⟩ := sr_lst sr k1
        exact run (cr_all (hc (by simp))) ⟨a, bs, rfl, by rw [← bls_vals r h2]; exact .of k2, fin (.bl _) q⟩
  | any =>
    cases ds with
    | nil => exact hw.elim
    | cons x r =>
      cases r with
      | cons _ _ => exact hw.elim
      | nil =>
        obtain ⟨v, rfl, r1⟩ := reps1 rd
        obtain ⟨xs, bs, h1, h2, q⟩ := hw
        obtain ⟨a, rfl, k1⟩ := h1
        cases rep_ref r1
        obtain ⟨ys, k2, r⟩ := sr_lst sr k1
        exact run (cr_any (hc (by simp))) ⟨a, bs, rfl, by rw [← bls_vals r h2]; exact .of k2, fin (.bl _) q⟩
  | gcd =>
    cases ds with
    | nil => exact hw.elim
    | cons x r =>
      cases r with
      | nil => cases x <;> exact hw.elim
      | cons y r =>
        cases r with
        | cons _ _ => cases x <;> cases y <;> exact hw.elim
        | nil =>
          obtain ⟨v, w, rfl, r1, r2⟩ := reps2 rd
          cases x with
          | int i =>
            cases y with
            | int j => cases rep_int r1; cases rep_int r2; exact run cr_gcd ⟨i, j, rfl, fin (.int _) hw⟩
            | _ => exact hw.elim
          | _ => cases y <;> exact hw.elim
  | max =>
    cases ds with
    | nil => exact hw.elim
    | cons x r =>
      cases r with
      | cons _ _ => exact hw.elim
      | nil =>
        obtain ⟨v, rfl, r1⟩ := reps1 rd
        obtain ⟨i, ns, h1, q⟩ := hw
        obtain ⟨p, ys, rfl, hs, r⟩ := seq r1 h1.1 h1.2
        have ey : ys = (i :: ns).map V.int := ints_vals (ns := i :: ns) r
        have hh := I.ok.hd (hc (by simp))
        have hd := depth_ints (i :: ns)
        have hcl := hu
        rw [Vals.ref1 rv]
        rcases hs with hs | hs
        · obtain ⟨its, rv2, hl, _⟩ := I.list hs
          rw [ey] at rv2
          obtain ⟨as, hr⟩ := reads_ints (h := s.heap) (ns := i :: ns) rv2
          refine PySem.W.max_list_data hh hl.isList (x := .int i) (xs := ns.map .int) (as := as) hr (alike_ints (i :: ns)) (by rw [show (PyData.int i :: ns.map PyData.int) = (i :: ns).map PyData.int from rfl]; omega) fun j v h' tk bs hv hrd hk => ?_
          rw [PySem.W.maxD_ints] at hrd
          cases hrd
          exact ⟨.int _, H, I.kept hk, ⟨_, rfl⟩, fin (.int _) q⟩
        · obtain ⟨its, rv2, hl, _⟩ := I.tuple hs
          rw [ey] at rv2
          obtain ⟨as, hr⟩ := reads_ints (h := s.heap) (ns := i :: ns) rv2
          refine PySem.W.max_tuple_data hh hl (x := .int i) (xs := ns.map .int) (as := as) hr (alike_ints (i :: ns)) (by rw [show (PyData.int i :: ns.map PyData.int) = (i :: ns).map PyData.int from rfl]; omega) fun j v h' tk bs hv hrd hk => ?_
          rw [PySem.W.maxD_ints] at hrd
          cases hrd
          exact ⟨.int _, H, I.kept hk, ⟨_, rfl⟩, fin (.int _) q⟩
  | min =>
    cases ds with
    | nil => exact hw.elim
    | cons x r =>
      cases r with
      | cons _ _ => exact hw.elim
      | nil =>
        obtain ⟨v, rfl, r1⟩ := reps1 rd
        obtain ⟨i, ns, h1, q⟩ := hw
        obtain ⟨p, ys, rfl, hs, r⟩ := seq r1 h1.1 h1.2
        have ey : ys = (i :: ns).map V.int := ints_vals (ns := i :: ns) r
        have hh := I.ok.hd (hc (by simp))
        have hd := depth_ints (i :: ns)
        have hcl := hu
        rw [Vals.ref1 rv]
        rcases hs with hs | hs
        · obtain ⟨its, rv2, hl, _⟩ := I.list hs
          rw [ey] at rv2
          obtain ⟨as, hr⟩ := reads_ints (h := s.heap) (ns := i :: ns) rv2
          refine PySem.W.min_list_data hh hl.isList (x := .int i) (xs := ns.map .int) (as := as) hr (alike_ints (i :: ns)) (by rw [show (PyData.int i :: ns.map PyData.int) = (i :: ns).map PyData.int from rfl]; omega) fun j v h' tk bs hv hrd hk => ?_
          rw [PySem.W.minD_ints] at hrd
          cases hrd
          exact ⟨.int _, H, I.kept hk, ⟨_, rfl⟩, fin (.int _) q⟩
        · obtain ⟨its, rv2, hl, _⟩ := I.tuple hs
          rw [ey] at rv2
          obtain ⟨as, hr⟩ := reads_ints (h := s.heap) (ns := i :: ns) rv2
          refine PySem.W.min_tuple_data hh hl (x := .int i) (xs := ns.map .int) (as := as) hr (alike_ints (i :: ns)) (by rw [show (PyData.int i :: ns.map PyData.int) = (i :: ns).map PyData.int from rfl]; omega) fun j v h' tk bs hv hrd hk => ?_
          rw [PySem.W.minD_ints] at hrd
          cases hrd
          exact ⟨.int _, H, I.kept hk, ⟨_, rfl⟩, fin (.int _) q⟩
  | sum =>
    cases ds with
    | nil => exact hw.elim
    | cons x r =>
      cases r with
      | cons _ _ => exact hw.elim
      | nil =>
        obtain ⟨v, rfl, r1⟩ := reps1 rd
        obtain ⟨ns, h1, h2, q⟩ := hw
        have go : ∀ {p : Addr} {ys : List V}, SqL X.K H p ys → Reps X.K X.mg H (ns.map .int) ys → [v] = [V.ref p] → wpAny (model X.prog X.w) X.A (call (bltV Bi.sum) us) (EP X pins σ0 Q) X.xe s := fun {p ys} hs r e => by
          have ey := ints_vals r
          subst ey
          exact cr_sum (hc (by simp)) pins s σ0 H _ us Q I rv ⟨p, ns, e, hs, fin (.int _) q⟩
        cases x with
        | ref a =>
          cases rep_ref r1
          have hi := h1.1
          simp only [itemsOf] at hi
          split at hi
          · rename_i xs k1
            cases hi
            obtain ⟨ys, k2, r⟩ := sr_lst sr k1
            exact go (.of k2) r rfl
          · cases hi
        | fls xs =>
          obtain ⟨p, ys, rfl, hs, r⟩ := rep_fls r1
          have hi : some xs = some (ns.map D.int) := h1.1
          cases hi
          exact go hs.sq r rfl
        | tup xs => exact absurd rfl (h2 xs)
        | str s => exact absurd rfl (h1.2 s)
        | _ => cases h1.1
  | _ => exact hw.elim
end
end PS
set_option maxHeartbeats 1000000
/-! PS, part 8: methods; arguments in a row. -/
namespace PS
open PySem PySem.Spec PyProof.Rows L2 PD

/-- the type of a method's receiver -/
def mtT : Mt → String
  | .append => "list" | .pop => "list" | .pop0 => "list" | .insert => "list" | .remove => "list" | .index => "list" | .count => "list"
  | .join => "str" | .partition => "str" | .split => "str" | .isdigit => "str" | .replace => "str" | .get => "dict"
section
variable {G : GT} {X : Cx} {W : WX}
def rM (G : GT) (X : Cx) (W : WX) (m : Mt) : V → List V → Hp → VK → Prop := fun x vs H Q => ∃ σ a ds, Rep X.K X.mg H a x ∧ Reps X.K X.mg H ds vs ∧ tE G X W (fun _ S Q _ => metW S m a ds Q) σ H Q
theorem mt_append_tree : MtR X "list.append" (rM G X W .append) := by
  intro pins s σ0 H x vs v us Q I rx rv h
  obtain ⟨σ, a, ds, ra, rd, h⟩ := h
  obtain ⟨e, S, Q', sr, hw, hQ⟩ := h.fin
  cases a with
  | ref p =>
    cases rep_ref ra
    cases ds with
    | nil => exact hw.elim
    | cons d r =>
      cases r with
      | cons _ _ => exact hw.elim
      | nil =>
        obtain ⟨w, rfl, r1⟩ := reps1 rd
        simp only [metW] at hw
        split at hw
        · rename_i xs k1
          obtain ⟨ys, k2, q⟩ := sr_lst sr k1
          refine mt_append pins s σ0 H _ _ v us Q I rx rv ⟨p, ys, w, rfl, rfl, k2, by rw [← q.len, line_eq]; exact hw.1, ?_⟩
          exact hQ _ _ _ _ (.put k2 rfl) .non (sr.setl k2 (q.app (.cons r1 .nil))) hw.2
        · exact hw.elim
  | _ => cases ds with
    | nil => exact hw.elim
    | cons d r => cases r <;> exact hw.elim
theorem cs_cps (l : List Nat) : (cs l).cps.toList = l := by simp [cs]
theorem joinL_eq (sep : List Nat) : ∀ ss : List (List Nat), Str.join (cs sep) (ss.map cs) = cs (PD.joinL sep ss)
  | [] => rfl
  | [x] => rfl
  | x :: y :: r => by
    show cs x ++ cs sep ++ Str.join (cs sep) ((y :: r).map cs) = cs (x ++ sep ++ PD.joinL sep (y :: r))
    rw [joinL_eq sep (y :: r), cs_app, cs_app]
theorem mt_join_tree : MtR X "str.join" (rM G X W .join) := by
  intro pins s σ0 H x vs v us Q I rx rv h
  obtain ⟨σ, a, ds, ra, rd, h⟩ := h
  obtain ⟨e, S, Q', sr, hw, hQ⟩ := h.fin
  cases a with
  | str sep =>
    cases rep_str ra
    cases ds with
    | nil => exact hw.elim
    | cons d r =>
      cases r with
      | cons _ _ => exact hw.elim
      | nil =>
        obtain ⟨w, rfl, r1⟩ := reps1 rd
        obtain ⟨xs, ss, h1, h2, h3, q⟩ := hw
        have lens : ((ss.map cs).map (·.length)).sum + (ss.map cs).length * (cs sep).length ≤ 16777216 := by
          rw [List.map_map, List.length_map, cs_len]
          have e1 : (fun (x : Str) => x.length) ∘ cs = fun l => l.length := by funext l; exact cs_len l
          rw [e1]
          exact h3
        have fin : Q (.str (Txt.join (cs sep) (ss.map cs))) H := by
          rw [TL.join_eq, joinL_eq]
          exact hQ _ H _ S (.refl H) (.str _) sr q
        rcases items_sq sr r1 h1.1 with ⟨p, ys, rfl, hs, r, _⟩ | ⟨t, rfl, ht⟩
        · have hv := strs_vals r h2
          rw [hv] at hs
          exact mt_join pins s σ0 H _ _ v us Q I rx rv ⟨_, p, ss.map cs, rfl, rfl, hs, lens, fin⟩
        · exact absurd rfl (h1.2 t)
  | _ => cases ds with
    | nil => exact hw.elim
    | cons d r => cases r <;> exact hw.elim
end
end PS
set_option maxHeartbeats 1000000
/-! PS, part 9: what a context owes; what calls mean; the rules of the plain expressions. -/
namespace PS
open PySem PySem.Spec PyProof.Rows L2 PD

/-- what a built-in name stands for -/
def bltU (x : String) : Option Value :=
  match x with
  | "len" => some (.builtin "len") | "abs" => some (.builtin "abs") | "isinstance" => some (.builtin "isinstance") | "all" => some (.builtin "all") | "any" => some (.builtin "any")
  | "sum" => some (.builtin "sum") | "max" => some (.builtin "max") | "min" => some (.builtin "min") | "sorted" => some (.builtin "sorted") | "gcd" => some (.builtin "math.gcd")
  | "int" => some (.type "int") | "str" => some (.type "str") | "tuple" => some (.type "tuple") | "list" => some (.type "list") | "bool" => some (.type "bool") | "dict" => some (.type "dict")
  | "range" => some (.type "range") | "enumerate" => some (.type "enumerate") | "zip" => some (.type "zip") | "reversed" => some (.type "reversed")
  | _ => none
theorem bltU_bi (b : Bi) : bltU (biN b) = some (bltV b) := by cases b <;> rfl
theorem bltU_ty {t : String} (h : tyNames.contains t = true) : bltU t = some (.type t) := by
  have : t ∈ tyNames := by simpa using h
  simp only [tyNames, List.mem_cons, List.not_mem_nil, or_false] at this
  rcases this with rfl | rfl | rfl | rfl | rfl | rfl <;> rfl
/-- a def as it stands in the object -/
structure FnIn (K : PySem.W.Frag) (mg : Str → Option Value) (F : FnD) (f : String) (fa : Addr) (fd : FuncData) : Prop where
  at_ : mg (os f) = some (.ref fa)
  lk : ∃ oc od osl, K.lookup fa = some ⟨oc, od, .func fd, osl⟩
  par : argsB fd.params F.ps fd.params.defaults.length = true
  nd : (F.ps.map os).Nodup
  le : F.dfl.length ≤ F.ps.length
  dfl : (F.dfl = [] ∧ fd.defaults = .none) ∨ ∃ (t : Addr) (o : Obj) (its : List Value) (n : Nat) (vs : List V), fd.defaults = .ref t ∧ K.lookup t = some o ∧ o.data = .seq its.toArray n ∧ F.dfl ≠ [] ∧ Vals vs its ∧ ∀ H, Reps K mg H F.dfl vs
/-- what a program's names stand for -/
structure Facts (T : Tb) (K : PySem.W.Frag) (mg : Str → Option Value) : Prop where
  fn : ∀ f, fnB T f = true → ∃ a, mg (os f) = some (.ref a) ∧ PySem.W.keepIn K (.ref a) = true
  fns : ∀ f F, T.fns.lookup f = some F → ∃ fa fd, FnIn K mg F f fa fd
  err : ∀ p ∈ T.errs, ∃ C, mg (os p.1) = some (.ref C) ∧ (∀ f ∈ p.2, Fld K C f) ∧ ∀ y, ((∃ q ∈ T.errs, q.1 = y) ∨ y = "PoolError") → ∃ Cy, mg (os y) = some (.ref Cy) ∧ PySem.W.exmOne K (.ref C) (.ref Cy) = some (p.1 == y || y == "PoolError")
  gc : ∀ p ∈ T.gcs, ∃ u v, mg (os p.1) = some u ∧ RelV v u ∧ ∀ H, Rep K mg H p.2 v
  blt : ∀ x, T.blts.contains x = true → ∃ u, bltU x = some u ∧ os x ≠ "__name__" ∧ ((mg (os x) = none ∧ bootBuiltins (os x) = some u) ∨ mg (os x) = some u)
/-- what a context owes -/
structure CxOk (G : GT) (X : Cx) (m : Md) (n : Nat) (sc : Scope) (N : List String) : Prop where
  sc : X.env.scope = sc
  kind : X.env.scope.kind = .function
  nm : X.N = N.map os
  nd : X.N.Nodup
  calm : m.cm = true → X.calm = true ∧ Room n X.A
  un : X.A.units + 65 < cLine
  link : G.clo = true → G.hp = X.s_0.heap ∧ G.H0 = X.H_0 ∧ X.ex = []
  facts : Facts G.T X.K X.mg
  lam : m.lm = true → G.clo = true ∧ ∃ c P, X.env.code = .ref c ∧ LamX.TabB X.base X.mg c P ∧ (P, X.env.qual ++ "<lambda>") ∈ G.tabs ∧ ∀ p ∈ G.tabs, p.1 = P → p.2 = X.env.qual ++ "<lambda>"
/-- a call's head -/
def CalAt (T : Tb) (K : PySem.W.Frag) (mg : Str → Option Value) (hp : Heap) (H : Hp) (f : AV) (u : Value) : Prop :=
  match f with
  | .d (.fn x) => ∃ a, u = .ref a ∧ mg (os x) = some (.ref a)
  | .clo ps fr b caps dfl => ∃ a, u = .ref a ∧ CloAt T K mg hp H a (.clo ps fr b caps dfl)
  | _ => False
/-- how its arguments are bound -/
def ArgAt (T : Tb) (K : PySem.W.Frag) (mg : Str → Option Value) (s : Shared) (f : AV) (ar : Args) (us : List Value) : Prop :=
  match f with
  | .d (.fn x) => ∀ F fa fd, T.fns.lookup x = some F → FnIn K mg F x fa fd → us.length = F.ps.length → BindsTo s fd ar ((F.ps.map os).zip us)
  | _ => ar = ⟨us, []⟩
/-- a value that is handed over -/
def RepV (T : Tb) (K : PySem.W.Frag) (mg : Str → Option Value) (hp : Heap) (H : Hp) (a : AV) (v : V) : Prop :=
  match a with
  | .d x => Rep K mg H x v
  | .clo ps fr b caps dfl => ∃ f, v = .ref f ∧ CloAt T K mg hp H f (.clo ps fr b caps dfl)
  | .exc _ _ => False
inductive RepVs (T : Tb) (K : PySem.W.Frag) (mg : Str → Option Value) (hp : Heap) (H : Hp) : List AV → List V → Prop
  | nil : RepVs T K mg hp H [] []
  | cons {a : AV} {v : V} {as : List AV} {vs : List V} (h : RepV T K mg hp H a v) (t : RepVs T K mg hp H as vs) : RepVs T K mg hp H (a :: as) (v :: vs)
/-- a def that is called is one of the program's -/
def HeadOk (T : Tb) (f : AV) : Prop := match f with
  | .d (.fn x) => fnB T x = true
  | _ => True
/-- WHAT A CALL MEANS: with room for n frames it comes to what is wanted -/
def CV (T : Tb) (tabs : List (Addr × Str)) (P : Program) (w : World) (K : PySem.W.Frag) (mg : Str → Option Value) (base : Heap) (n : Nat) : CallT := fun f as S Q E => HeadOk T f ∧
  ∀ (A : Around) (outer : List PySem.Env) (s : Shared) (H : Hp) (u : Value) (ar : Args) (vs : List V) (us : List Value) (Qr : VK) (Er : XK),
    Room n A → Env0 P w K mg base A outer s H → CalAt T K mg s.heap H f u → ArgAt T K mg s f ar us → RepVs T K mg s.heap H as vs → Vals vs us → LamX.Tabs tabs H → SRel K mg H S →
    (∀ v H' d S', Ext H H' → LamX.Tabs tabs H' → SRel K mg H' S' → Rep K mg H' d v → Q d S' → Qr v H') →
    (∀ x fs S' cls d H', Ext H H' → LamX.Tabs tabs H' → SRel K mg H' S' → XRepK T K mg H' x fs cls d → E x fs S' → Er cls d H') →
    codeAny (model P w) A (.call u ar) (CR (L2.CX P w) outer P w H s Qr Er) s
abbrev CVX (G : GT) (X : Cx) (n : Nat) : CallT := CV G.T G.tabs X.prog X.w X.K X.mg X.base n

section
variable {G : GT} {X : Cx} {W : WX} {m : Md} {n : Nat} {sc : Scope} {N : List String} {C : CallT}
theorem CxOk.at (c : CxOk G X m n sc N) {i : Nat} {x : Str} (h : atB N i x = true) : X.N[i]? = some x := by
  unfold atB at h
  split at h
  · rename_i y hy
    rw [c.nm, List.getElem?_map, hy]
    exact congrArg some (eq_of_beq h)
  · cases h
theorem visB_ok {x : Str} (h : visB sc x = true) : Vis sc x := by
  unfold visB at h
  split at h <;> rename_i e
  · exact .inl e
  · exact .inr (.inl e)
  · exact .inr (.inr e)
  · cases h
theorem locB_ok {x : Str} (h : locB sc x = true) : Loc sc x := by
  unfold locB at h
  split at h <;> rename_i e
  · exact .inl e
  · exact .inr e
  · cases h
theorem dbgB_ok {x : Str} (h : dbgB x = true) : (x == ("__debug__" : Str)) = false ∧ (x == ("__classdict__" : Str)) = false := by
  unfold dbgB at h
  simpa using h
theorem CxOk.gl (c : CxOk G X m n sc N) {x : Str} (h : gloB sc x = true) : Gl X x := by
  unfold gloB at h
  show X.env.scope.names.lookup x = _
  rw [c.sc]
  split at h <;> rename_i e
  · exact e
  · cases h
theorem CxOk.vis (c : CxOk G X m n sc N) {x : Str} (h : visB sc x = true) : Vis X.env.scope x := by rw [c.sc]; exact visB_ok h
theorem sr_var {σ : L2.St} {H : Hp} {e : PD.Env} {S : Sto} (sr : SR G X σ H e S) {i : Nat} {d : D} (h : e[i]? = some (some (.d d))) : ∃ v, σ[i]? = some (some v) ∧ Rep X.K X.mg H d v := sr.env i _ h
/-- a name's value, at once -/
theorem pe_now {x : Expr} {w : PD.Env → Sto → QV → QX → Prop} {t : TE} (h : PE X x t)
    (k : ∀ σ H e S Q' E' (Q : VK), SR G X σ H e S → w e S Q' E' → (∀ d v, Rep X.K X.mg H d v → Q' d S → Q v H) → t σ H Q) : PE X x (tE G X W w) :=
  PE.imp h fun σ H Q ⟨e, S, Q', E', sr, hw, hQ, _⟩ => k σ H e S Q' E' Q sr hw fun d v r q => hQ v H d S (.refl H) r sr q
theorem rule_var (c : CxOk G X m n sc N) {i : Nat} {x : Str} {p : Pos} (h : (atB N i x && visB sc x && dbgB x) = true) : PE X (.Name x p) (tE G X W (wpE C (.var i))) := by
  simp only [Bool.and_eq_true] at h
  obtain ⟨⟨h1, h2⟩, h3⟩ := h
  refine pe_now (pe_var (c.at h1) (c.vis h2) (dbgB_ok h3).1 (dbgB_ok h3).2) fun σ H e S Q' E' Q sr hw k => ?_
  obtain ⟨d, h1, q⟩ := hw
  obtain ⟨v, h2, r⟩ := sr_var sr h1
  exact ⟨v, h2, k d v r q⟩
theorem rule_non {j p} : PE X (.Constant .none j p) (tE G X W (wpE C .non)) := pe_now pe_non fun σ H e S Q' E' Q sr hw k => k _ _ .non hw
theorem rule_bl {b j p} : PE X (.Constant (.bool b) j p) (tE G X W (wpE C (.bl b))) := pe_now pe_bl fun σ H e S Q' E' Q sr hw k => k _ _ (.bl b) hw
theorem rule_int {i : Int} {j p} : PE X (.Constant (.int i) j p) (tE G X W (wpE C (.int i))) := pe_now pe_int fun σ H e S Q' E' Q sr hw k => k _ _ (.int i) hw
theorem rule_str {x : Str} {j p} : PE X (.Constant (.str x) j p) (tE G X W (wpE C (.str x.cps.toList))) := pe_now pe_str fun σ H e S Q' E' Q sr hw k => k _ _ (.str _) hw
theorem rule_gfn (c : CxOk G X m n sc N) {f : String} {p : Pos} (h : (gloB sc (os f) && dbgB (os f) && fnB G.T f) = true) : PE X (.Name (os f) p) (tE G X W (wpE C (.gfn f))) := by
  simp only [Bool.and_eq_true] at h
  obtain ⟨⟨h1, h2⟩, h3⟩ := h
  obtain ⟨a, e1, kp⟩ := c.facts.fn f h3
  exact pe_now (pe_glob (v := .ref a) (c.gl h1) e1 rfl (dbgB_ok h2).1) fun σ H e S Q' E' Q sr hw k => k _ _ (.fn e1 kp) hw
mutual
theorem sameD_eq : ∀ {x y : D}, sameD x y = true → x = y
  | .non, y, h => by cases y <;> first | rfl | exact (Bool.false_ne_true h).elim
  | .bl a, y, h => by cases y <;> first | exact congrArg D.bl (eq_of_beq h) | exact (Bool.false_ne_true h).elim
  | .int a, y, h => by cases y <;> first | exact congrArg D.int (eq_of_beq h) | exact (Bool.false_ne_true h).elim
  | .str a, y, h => by cases y <;> first | exact congrArg D.str (eq_of_beq h) | exact (Bool.false_ne_true h).elim
  | .ty a, y, h => by cases y <;> first | exact congrArg D.ty (eq_of_beq h) | exact (Bool.false_ne_true h).elim
  | .fn a, y, h => by cases y <;> first | exact congrArg D.fn (eq_of_beq h) | exact (Bool.false_ne_true h).elim
  | .tup a, y, h => by cases y <;> first | exact congrArg D.tup (sameDs_eq h) | exact (Bool.false_ne_true h).elim
  | .fls a, y, h => by cases y <;> exact (Bool.false_ne_true h).elim
  | .ref a, y, h => by cases y <;> exact (Bool.false_ne_true h).elim
theorem sameDs_eq : ∀ {x y : List D}, sameDs x y = true → x = y
  | [], y, h => by cases y <;> first | rfl | exact (Bool.false_ne_true h).elim
  | a :: r, y, h => by
    cases y with
    | nil => exact (Bool.false_ne_true h).elim
    | cons b s =>
      have h' : (sameD a b && sameDs r s) = true := h
      rw [Bool.and_eq_true] at h'
      rw [sameD_eq h'.1, sameDs_eq h'.2]
end
theorem rule_gc (c : CxOk G X m n sc N) {f : String} {d : D} {p : Pos} (h : (gloB sc (os f) && dbgB (os f) && G.T.gcs.any fun p => p.1 == f && sameD p.2 d) = true) : PE X (.Name (os f) p) (tE G X W (wpE C (.gc f d))) := by
  simp only [Bool.and_eq_true] at h
  obtain ⟨⟨h1, h2⟩, h3⟩ := h
  obtain ⟨q, hq, h4⟩ := List.any_eq_true.mp h3
  rw [Bool.and_eq_true] at h4
  obtain ⟨u, v, e1, e2, e3⟩ := c.facts.gc q hq
  rw [eq_of_beq h4.1] at e1
  rw [sameD_eq h4.2] at e3
  exact pe_now (pe_glob (c.gl h1) e1 e2 (dbgB_ok h2).1) fun σ H e S Q' E' Q sr hw k => k _ _ (e3 H) hw
theorem rule_ty (c : CxOk G X m n sc N) {t : String} {p : Pos} (h : (gloB sc (os t) && dbgB (os t) && tyNames.contains t && G.T.blts.contains t) = true) : PE X (.Name (os t) p) (tE G X W (wpE C (.ty t))) := by
  simp only [Bool.and_eq_true] at h
  obtain ⟨⟨⟨h1, h2⟩, h3⟩, h4⟩ := h
  obtain ⟨u, e1, e2, e3⟩ := c.facts.blt t (by simpa using h4)
  rw [bltU_ty (by simpa using h3)] at e1
  cases e1
  rcases e3 with ⟨e3, e4⟩ | e3
  · exact pe_now (pe_bltn (v := .ty t) (c.gl h1) e3 e4 rfl e2 (dbgB_ok h2).1) fun σ H e S Q' E' Q sr hw k => k _ _ (.ty t) hw
  · exact pe_now (pe_glob (v := .ty t) (c.gl h1) e3 rfl (dbgB_ok h2).1) fun σ H e S Q' E' Q sr hw k => k _ _ (.ty t) hw
variable {a b d : Expr} {x y z : Ex} {p : Pos}
theorem rule_bin {o : Bo} {op : Operator} (ho : boB o op = true) (ha : PE X a (tE G X W (wpE C x))) (hb : PE X b (tE G X W (wpE C y))) : PE X (.BinOp a op b p) (tE G X W (wpE C (.bin o x y))) :=
  PE.imp (pe_op (op_bin ho) ha hb) fun σ H Q h => tE.two h
theorem rule_cmp (c : CxOk G X m n sc N) {o : Co} {op : CmpOp} (ho : coB o op = true) (hb' : plainB b = true) (ha : PE X a (tE G X W (wpE C x))) (hb : PE X b (tE G X W (wpE C y))) : PE X (.Compare a [op] [b] p) (tE G X W (wpE C (.cmp o x y))) :=
  PE.imp (pe_cmpR (op_cmp c.un ho) ha hb (by cases b <;> first | rfl | cases hb')) fun σ H Q h => tE.two (w := fun x y S Q => cmpW S o x y fun k => Q (.bl k) S) h
theorem rule_neg (ha : PE X a (tE G X W (wpE C x))) : PE X (.UnaryOp .USub a p) (tE G X W (wpE C (.neg x))) :=
  PE.imp (pe_un un_neg ha) fun σ H Q h => (tE.bind (k := fun v _ S1 Q _ => ∃ i, v = .int i ∧ Q (.int (-i)) S1) h).imp fun v H1 _ ⟨_, d, r, h1⟩ => by
    obtain ⟨e, S, Q', sr, ⟨i, rfl, q⟩, hQ⟩ := h1.fin (w := fun S Q => ∃ i, d = .int i ∧ Q (.int (-i)) S)
    cases rep_int r
    exact ⟨i, rfl, hQ _ H1 _ S (.refl _) (.int _) sr q⟩
end
end PS
set_option maxHeartbeats 1000000
/-! PS, part 10: rows of expressions, displays, subscripts, built-ins, methods, tests. -/
namespace PS
open PySem PySem.Spec PyProof.Rows L2 PD

theorem star_cons {a : Expr} (h : plainB a = true) (es : List Expr) (env : PySem.Env) : starEach (a :: es) env = (false, eval a env) :: starEach es env := by
  cases a <;> first | rfl | cases h
theorem star_none {es : List Expr} (h : ∀ a ∈ es, plainB a = true) (pos : Pos) (env : PySem.Env) : (backTo pos (starEach es env)).any (·.1) = false := by
  induction es with
  | nil => rfl
  | cons a es ih =>
    rw [star_cons (h a List.mem_cons_self)]
    show (false || (backTo pos (starEach es env)).any (·.1)) = false
    rw [ih fun b hb => h b (List.mem_cons_of_mem _ hb)]
    rfl
theorem base_at {o : Expr} (h : baseB o = true) (name : Str) (env : PySem.Env) : attributeBase o name env (eval o env) = eval o env := by
  cases o with
  | Call f as ks p =>
    cases as with
    | nil =>
      cases ks with
      | nil => cases h
      | cons _ _ => cases f <;> rfl
    | cons _ _ => cases f <;> rfl
  | _ => rfl
section
variable {G : GT} {X : Cx} {W : WX} {m : Md} {n : Nat} {sc : Scope} {N : List String} {C : CallT}
/-- THE READING of a row of expressions -/
def tL (G : GT) (X : Cx) (W : WX) (k : Nat) (w : PD.Env → Sto → (List D → Sto → Prop) → QX → Prop) : TA := fun σ H Q => ∃ e S Q' E', SR G X σ H e S ∧ w e S Q' E' ∧
  (∀ vs H' ds S', Ext H H' → Reps X.K X.mg H' ds vs → ds.length = k → SR G X σ H' e S' → Q' ds S' → Q vs H') ∧
  (∀ x fs S' cls d H', SR G X σ H' e S' → XRep G X H' x fs cls d → E' x fs S' → W cls d σ H')
theorem PA.imp {es : List Expr} {t t' : TA} (h : PA X es t) (k : ∀ σ H Q, t' σ H Q → t σ H Q) : PA X es t' := ⟨fun pos pins s σ H Q I q => h.run pos pins s σ H Q I (k σ H Q q)⟩
theorem rule_lnil : PA X [] (tL G X W 0 (wpL C [])) :=
  PA.imp pa_nil fun σ H Q ⟨e, S, Q', E', sr, hw, hQ, _⟩ => hQ [] H [] S (.refl H) .nil rfl sr hw
theorem tL.cons {x : Ex} {r : List Ex} {k : Nat} {σ : L2.St} {H : Hp} {Q : List V → Hp → Prop} (h : tL G X W (k + 1) (wpL C (x :: r)) σ H Q) :
    tCons (tE G X W (wpE C x)) (tL G X W k (wpL C r)) σ H Q :=
  let ⟨e, S, Q', E', sr, hw, hQ, hE⟩ := h
  ⟨e, S, fun d S1 => wpL C r e S1 (fun ds S2 => Q' (d :: ds) S2) E', E', sr, hw, fun v H1 d S1 x r1 s q =>
    ⟨e, S1, _, E', s, q, fun vs H2 ds S2 x2 r2 hl s2 q2 => hQ (v :: vs) H2 (d :: ds) S2 (x.trans x2) (.cons (r1.ext x2) r2) (congrArg (· + 1) hl) s2 q2, hE⟩, hE⟩
theorem rule_lcons {a : Expr} {es : List Expr} {x : Ex} {r : List Ex} {k : Nat} (hp : plainB a = true) (ha : PE X a (tE G X W (wpE C x))) (hr : PA X es (tL G X W k (wpL C r))) : PA X (a :: es) (tL G X W (k + 1) (wpL C (x :: r))) :=
  PA.imp (pa_cons ha hr (star_cons hp es X.env)) fun σ H Q h => tL.cons h
/-- several, then one thing more -/
theorem tL.bind {wl : PD.Env → Sto → (List D → Sto → Prop) → QX → Prop} {k : Nat} {f : List D → PD.Env → Sto → QV → QX → Prop} {σ : L2.St} {H : Hp} {Q : VK} (h : tE G X W (fun e S Q E => wl e S (fun ds S1 => f ds e S1 Q E) E) σ H Q) :
    tL G X W k wl σ H (fun vs H1 => Ext H H1 ∧ ∃ ds, Reps X.K X.mg H1 ds vs ∧ ds.length = k ∧ tE G X W (f ds) σ H1 Q) :=
  let ⟨e, S, Q', E', sr, hw, hQ, hE⟩ := h
  ⟨e, S, fun ds S1 => f ds e S1 Q' E', E', sr, hw, fun vs H1 ds S1 x r hl s q => ⟨x, ds, r, hl, e, S1, Q', E', s, q, fun v' H' d' S' x' r' s' q' => hQ v' H' d' S' (x.trans x') r' s' q', hE⟩, hE⟩
theorem tL.imp {wl : PD.Env → Sto → (List D → Sto → Prop) → QX → Prop} {k : Nat} {σ : L2.St} {H : Hp} {Q Q2 : List V → Hp → Prop} (h : tL G X W k wl σ H Q) (i : ∀ v H', Ext H H' → Q v H' → Q2 v H') : tL G X W k wl σ H Q2 :=
  let ⟨e, S, Q', E', sr, hw, hQ, hE⟩ := h
  ⟨e, S, Q', E', sr, hw, fun v H' d S' x r l s q => i v H' x (hQ v H' d S' x r l s q), hE⟩
variable {a b d : Expr} {es : List Expr} {x y z : Ex} {xs : List Ex} {p : Pos}
theorem rule_tup {k} (hl : xs.length ≤ 1000) (h : PA X es (tL G X W xs.length (wpL C xs))) : PE X (.Tuple es k p) (tE G X W (wpE C (.tup xs))) :=
  PE.imp (pe_tup h) fun σ H Q hq => (tL.bind (f := fun ds _ S Q _ => Q (.tup ds) S) hq).imp fun vs H1 _ ⟨_, ds, r, l, h1⟩ => by
    obtain ⟨e, S, Q', sr, q, hQ⟩ := h1.fin (w := fun S Q => Q (.tup ds) S)
    refine ⟨by rw [← r.len, l, line_eq]; exact Nat.le_trans hl (by decide), fun p hp => ?_⟩
    exact hQ _ _ _ S (.new hp) (.tup (.of upd_same) (r.ext (.new hp))) (sr.new hp) q
theorem rule_lst (hl : xs.length ≤ 1000) (h : PA X es (tL G X W xs.length (wpL C xs))) : PE X (.List es p) (tE G X W (wpE C (.lst xs))) :=
  PE.imp (pe_lst h) fun σ H Q hq => (tL.bind (f := fun ds _ S Q _ => ∀ p, S p = none → Q (.ref p) (sup S p (.lst ds))) hq).imp fun vs H1 _ ⟨_, ds, r, l, h1⟩ => by
    obtain ⟨e, S, Q', sr, q, hQ⟩ := h1.fin (w := fun S Q => ∀ p, S p = none → Q (.ref p) (sup S p (.lst ds)))
    refine ⟨by rw [← r.len, l, line_eq]; exact Nat.le_trans hl (by decide), fun p hp => ?_⟩
    exact hQ _ _ _ _ (.new hp) (.ref p) (sr.newl hp r) (q p (sr.sto.fresh hp))
theorem rule_idx (hb' : plainB b = true) (ha : PE X a (tE G X W (wpE C x))) (hb : PE X b (tE G X W (wpE C y))) : PE X (.Subscript a b p) (tE G X W (wpE C (.idx x y))) :=
  PE.imp (pe_ix ix_tree ha hb (fun o i => by cases b <;> first | rfl | cases hb')) fun σ H Q h => tE.two (w := fun x y S Q => idxW S x y fun d => Q d S) h
theorem PO.imp {x : Option Expr} {t t' : TO} (h : PO X x t) (k : ∀ σ H Q, t' σ H Q → t σ H Q) : PO X x t' := ⟨fun pins s σ H Q I q => h.run pins s σ H Q I (k σ H Q q)⟩
/-- a part of a slice -/
def tO (G : GT) (X : Cx) (W : WX) (w : PD.Env → Sto → (List D → Sto → Prop) → QX → Prop) : TO := fun σ H Q => ∃ e S Q' E', SR G X σ H e S ∧ w e S Q' E' ∧
  (∀ H' ds S', Ext H H' → SR G X σ H' e S' → Q' ds S' → ∃ i, endOf ds = some i ∧ Q i H') ∧
  (∀ x fs S' cls d H', SR G X σ H' e S' → XRep G X H' x fs cls d → E' x fs S' → W cls d σ H')
theorem rule_onone : PO X none (tO G X W (wpL C [])) :=
  PO.imp po_none fun σ H Q ⟨e, S, Q', E', sr, hw, hQ, _⟩ => by
    obtain ⟨i, h1, h2⟩ := hQ H [] S (.refl H) sr hw
    cases h1
    exact h2
/-- a part that may be None too -/
def tPartN (t : TE) : TO := fun σ H Q => t σ H fun x H1 => (∃ i, x = .int i ∧ Q (some i) H1) ∨ (x = .non ∧ Q none H1)
theorem po_someN {e : Expr} {te : TE} (h : PE X e te) : PO X (some e) (tPartN te) := by
  refine ⟨fun pins s σ H Q I hw => ?_⟩
  rw [evalPart_some]
  refine thn (h.run pins s σ H _ I hw) fun u s1 ⟨x, H1, I1, r1, q1⟩ => ?_
  rcases q1 with ⟨i, rfl, q⟩ | ⟨rfl, q⟩
  · obtain ⟨t, rfl⟩ := r1
    exact ⟨some i, H1, I1, .int i t, q⟩
  · obtain rfl : u = Value.none := r1
    exact ⟨none, H1, I1, .none, q⟩
theorem rule_osome (ha : PE X a (tE G X W (wpE C x))) : PO X (some a) (tO G X W (wpL C [x])) :=
  PO.imp (po_someN ha) fun σ H Q ⟨e, S, Q', E', sr, hw, hQ, hE⟩ => ⟨e, S, fun d S1 => Q' [d] S1, E', sr, hw, (fun v H1 d S1 x1 r s q => by
    obtain ⟨i, h1, h2⟩ := hQ H1 [d] S1 x1 s q
    cases d with
    | int j => cases rep_int r; cases h1; exact .inl ⟨j, rfl, h2⟩
    | non => cases r; cases h1; exact .inr ⟨rfl, h2⟩
    | _ => cases h1), hE⟩
theorem rule_slc {l h : Option Expr} {lo hi : List Ex} {p2 : Pos} (ha : PE X a (tE G X W (wpE C x))) (hl : PO X l (tO G X W (wpL C lo))) (hh : PO X h (tO G X W (wpL C hi))) : PE X (.Subscript a (.Slice l h none p2) p) (tE G X W (wpE C (.slc x lo hi))) :=
  PE.imp (pe_slice sl_tree ha hl hh) fun σ H Q h => by
    refine (tE.bind (k := fun x e S1 Q E => wpL C lo e S1 (fun l S2 => ∃ i, endOf l = some i ∧ wpL C hi e S2 (fun h S3 => ∃ j, endOf h = some j ∧ slcW S3 x i j Q) E) E) h).imp fun v H1 _ ⟨_, d, r, e, S, Q', E', sr, hw, hQ, hE⟩ => ?_
    refine ⟨e, S, _, E', sr, hw, fun H2 ds S2 x2 s2 q2 => ?_, hE⟩
    obtain ⟨i, ei, q2⟩ := q2
    refine ⟨i, ei, e, S2, _, E', s2, q2, fun H3 ds3 S3 x3 s3 q3 => ?_, hE⟩
    obtain ⟨j, ej, q⟩ := q3
    exact ⟨j, ej, σ, d, (r.ext x2).ext x3, e, S3, Q', E', s3, q, fun v' H' d' S' x' r' s' q' => hQ v' H' d' S' ((x2.trans x3).trans x') r' s' q', hE⟩
end
end PS
set_option maxHeartbeats 1000000
/-! PS, part 11: built-in functions and methods called; tests. -/
namespace PS
open PySem PySem.Spec PyProof.Rows L2 PD

section
variable {G : GT} {X : Cx} {W : WX} {m : Md} {n : Nat} {sc : Scope} {N : List String} {C : CallT}
theorem ld_any {pins : List (Addr × Obj)} {s : Shared} {σ : L2.St} {H : Hp} {x : Str} {u : Value} {p : Pos} {Q : Value → Shared → Prop} {E : Value → Shared → Prop} (I : Inv X pins σ H s) (hg : Gl X x) (hn : x ≠ "__name__") (hd : (x == ("__debug__" : Str)) = false)
    (h : (X.mg x = none ∧ bootBuiltins x = some u) ∨ X.mg x = some u) (q : Q u s) : wpAny (model X.prog X.w) X.A (eval (.Name x p) X.env) Q E s := by
  rcases h with ⟨h1, h2⟩ | h
  · exact ld_blt I hg h1 h2 q hn hd
  · exact ld_glob I hg h q hd
theorem bltV_kind (b : Bi) : (∃ id, bltV b = .builtin id) ∨ ∃ t, bltV b = .type t := by cases b <;> first | exact .inl ⟨_, rfl⟩ | exact .inr ⟨_, rfl⟩
theorem blt_nil (b : Bi) (S : Sto) (Q : QV) : ¬ bltW S b [] Q := by cases b <;> exact fun h => h
variable {a b d e1 : Expr} {es er : List Expr} {x y z : Ex} {xs : List Ex} {p pos : Pos}
theorem rule_blt (c : CxOk G X m n sc N) {b : Bi} (h : (gloB sc (os (biN b)) && dbgB (os (biN b)) && G.T.blts.contains (biN b)) = true) (hc : calmB b m = true) (hp : ∀ a ∈ e1 :: er, plainB a = true) (ha : PA X (e1 :: er) (tL G X W (er.length + 1) (wpL C xs))) :
    PE X (.Call (.Name (os (biN b)) p) (e1 :: er) [] pos) (tE G X W (wpE C (.blt b xs))) := by
  simp only [Bool.and_eq_true] at h
  obtain ⟨⟨h1, h2⟩, h3⟩ := h
  obtain ⟨u, q1, q2, q3⟩ := c.facts.blt _ h3
  rw [bltU_bi] at q1
  cases q1
  have hc' : b = .all ∨ b = .any ∨ b = .max ∨ b = .min ∨ b = .sum → X.calm = true := fun h => (c.calm (by rcases h with rfl | rfl | rfl | rfl | rfl <;> exact hc)).1
  have he := star_cons (hp e1 List.mem_cons_self) er X.env
  have hpl := star_none (fun a h => hp a (List.mem_cons_of_mem _ h)) pos X.env (es := er)
  refine ⟨fun pins s σ H Q I hq => ?_⟩
  refine wpAny_Call_Name_kw (ld_any I (c.gl h1) q2 (dbgB_ok h2).1 q3 ?_)
  have go : wpAny (model X.prog X.w) X.A (spliced (backTo pos (starEach (e1 :: er) X.env))) (fun us s1 => wpAny (model X.prog X.w) X.A (call (bltV b) us) (EP X pins σ Q) X.xe s1) X.xe s :=
    thn (ha.run pos pins s σ H _ I ((tL.bind (f := fun ds _ S1 Q _ => bltW S1 b ds Q) (Q := Q) hq).imp fun vs H1 _ ⟨_, ds, r, l, q⟩ => (⟨σ, ds, r, q⟩ : rB G X W b vs H1 Q))) fun us s1 ⟨vs, H1, I1, r1, q1⟩ => blt_tree b c.un hc' pins s1 σ H1 vs us Q I1 r1 q1
  rcases bltV_kind b with ⟨id, e⟩ | ⟨t, e⟩
  · rw [e] at go ⊢
    exact PyProof.Rows.callWith_builtin1 go he hpl
  · rw [e] at go ⊢
    exact PyProof.Rows.callWith_type1 go he hpl
theorem few_ok (es : List Expr) (hl : es.length < 20) (hp : ∀ a ∈ es, plainB a = true) (pos : Pos) (env : PySem.Env) : ((backTo pos (starEach es env)).all (fun x => !x.1) && (backToKw pos (keywordEach [] env)).all (fun x => x.1.isSome)
      && decide (es.length + ([] : List Keyword).length + (if ([] : List Keyword).isEmpty then 0 else 1) < 30)) = true := by
  have h1 : (backTo pos (starEach es env)).all (fun x => !x.1) = true := by
    have := star_none hp pos env
    rw [List.all_eq_not_any_not]
    simp only [Bool.not_not]
    rw [this]
    rfl
  rw [h1]
  simp [backToKw, keywordEach]
  omega
theorem rule_meth {t : Mt} {id : String} {apos : Pos} (pa : PlainAttrs (mtT t)) (slot : Slot (mtT t) (os (mtN t)) id) (hty : typeOf (.builtin id) = pure (.type "method_descriptor")) (hm : MtR X id (rM G X W t))
    (hr : ∀ (H : Hp) (S : Sto) (d : D) (v : V), SRel X.K X.mg H S → Rep X.K X.mg H d v → recvW S t d → tyV X.K (mtT t) v H) (hb : baseB a = true) (hl : (apos.endLine == pos.line) = true) (hz : (e1 :: er).length < 20) (hp : ∀ a ∈ e1 :: er, plainB a = true)
    (ho : PE X a (tE G X W (wpE C x))) (ha : PA X (e1 :: er) (tL G X W (er.length + 1) (wpL C xs))) : PE X (.Call (.Attribute a (os (mtN t)) apos) (e1 :: er) [] pos) (tE G X W (wpE C (.meth x t xs))) := by
  refine PE.imp (pe_bm pa slot hty hm ho ha (base_at hb _ _) (few_ok _ hz hp _ _) hl (star_cons (hp e1 List.mem_cons_self) er X.env) (star_none (fun a h => hp a (List.mem_cons_of_mem _ h)) pos X.env)) fun σ H Q hq => ?_
  refine (tE.bind (k := fun x e S1 Q E => recvW S1 t x ∧ wpL C xs e S1 (fun ds S2 => metW S2 t x ds Q) E) hq).imp fun v H1 _ ⟨_, d, r, e, S, Q', E', sr, ⟨hrc, hw⟩, hQ, hE⟩ => ?_
  refine ⟨hr H1 S d v sr.sto r hrc, ?_⟩
  have h2 : tE G X W (fun e S Q E => wpL C xs e S (fun ds S2 => metW S2 t d ds Q) E) σ H1 Q := ⟨e, S, Q', E', sr, hw, hQ, hE⟩
  exact (tL.bind (f := fun ds _ S1 Q _ => metW S1 t d ds Q) h2).imp fun vs H2 x2 ⟨_, ds, r2, l, q⟩ => ⟨σ, d, ds, r.ext x2, r2, q⟩
theorem rule_append {apos : Pos} (hb : baseB a = true) (hl : (apos.endLine == pos.line) = true) (hz : (e1 :: er).length < 20) (hp : ∀ a ∈ e1 :: er, plainB a = true)
    (ho : PE X a (tE G X W (wpE C x))) (ha : PA X (e1 :: er) (tL G X W (er.length + 1) (wpL C xs))) : PE X (.Call (.Attribute a (os (mtN .append)) apos) (e1 :: er) [] pos) (tE G X W (wpE C (.meth x .append xs))) :=
  rule_meth (t := .append) F.plainAttrs_list F.slot_list_append F.type_list_append mt_append_tree (fun H S d v sr r ⟨p, xs, e, hS⟩ => by
    subst e
    cases rep_ref r
    obtain ⟨vs, h1, _⟩ := sr p _ hS
    exact .inl ⟨rfl, vs, .of h1⟩) hb hl hz hp ho ha
theorem rule_join {apos : Pos} (hb : baseB a = true) (hl : (apos.endLine == pos.line) = true) (hz : (e1 :: er).length < 20) (hp : ∀ a ∈ e1 :: er, plainB a = true)
    (ho : PE X a (tE G X W (wpE C x))) (ha : PA X (e1 :: er) (tL G X W (er.length + 1) (wpL C xs))) : PE X (.Call (.Attribute a (os (mtN .join)) apos) (e1 :: er) [] pos) (tE G X W (wpE C (.meth x .join xs))) :=
  rule_meth (t := .join) F.plainAttrs_str F.slot_str_join F.type_str_join mt_join_tree (fun H S d v sr r ⟨s, e⟩ => by
    subst e
    cases rep_str r
    exact rfl) hb hl hz hp ho ha
/-! ### tests -/
/-- THE READING of a test -/
def tT (G : GT) (X : Cx) (W : WX) (w : PD.Env → Sto → QV → QX → Prop) : TT := fun σ H Q => ∃ e S Q' E', SR G X σ H e S ∧ w e S Q' E' ∧
  (∀ H' d S', Ext H H' → SR G X σ H' e S' → Q' d S' → ∃ k, tru S' d = some k ∧ Q k H') ∧
  (∀ x fs S' cls d H', SR G X σ H' e S' → XRep G X H' x fs cls d → E' x fs S' → W cls d σ H')
theorem PT.imp {x : Expr} {t t' : TT} (h : PT X x t) (k : ∀ σ H Q, t' σ H Q → t σ H Q) : PT X x t' := ⟨fun pins s σ H Q I q => h.run pins s σ H Q I (k σ H Q q)⟩
theorem PW.imp {x : Expr} {t t' : TT} (h : PW X x t) (k : ∀ σ H Q, t' σ H Q → t σ H Q) : PW X x t' := ⟨fun wh pins s σ H Q I q => h.run wh pins s σ H Q I (k σ H Q q)⟩
/-- a value's truth -/
theorem test_val (ha : PE X a (tE G X W (wpE C x))) (he : ∀ whole, isTrue a X.env whole = (do let v ← whole; standAt a.pos; holding [v] (truthy v))) : PT X a (tT G X W (wpE C x)) :=
  PT.imp (pt_truth ha he) fun σ H Q ⟨e, S, Q', E', sr, hw, hQ, hE⟩ => ⟨e, S, Q', E', sr, hw, fun v H' d S' x1 r s q => by
    obtain ⟨k, h1, h2⟩ := hQ H' d S' x1 s q
    exact ⟨k, tru_of s r h1, h2⟩, hE⟩
theorem eqW_mono {S : Sto} {x y : D} {Q Q' : Bool → Prop} (h : eqW S x y Q) (k : ∀ b, Q b → Q' b) : eqW S x y Q' := by
  cases x <;> cases y <;> first
    | exact k _ h
    | exact ⟨h.1, h.2.1, k _ h.2.2⟩
    | (revert h; simp only [eqW]; split
       · exact fun h => ⟨h.1, h.2.1, k _ h.2.2⟩
       · exact fun h => h)
theorem isW_mono {x y : D} {Q Q' : Bool → Prop} (h : isW x y Q) (k : ∀ b, Q b → Q' b) : isW x y Q' := by
  cases y <;> first | exact k _ h | exact h
theorem inW_mono {S : Sto} {x y : D} {Q Q' : Bool → Prop} (h : inW S x y Q) (k : ∀ b, Q b → Q' b) : inW S x y Q' := by
  cases y with
  | str t => revert h; simp only [inW]; split <;> first | exact k _ | exact fun h => h
  | tup ys => exact ⟨h.1, h.2.1, k _ h.2.2⟩
  | ref b => revert h; simp only [inW]; split <;> first | exact fun h => ⟨h.1, h.2.1, k _ h.2.2⟩ | exact fun h => h
  | _ => exact h
theorem cmpW_mono {S : Sto} {o : Co} {x y : D} {Q Q' : Bool → Prop} (h : cmpW S o x y Q) (k : ∀ b, Q b → Q' b) : cmpW S o x y Q' := by
  cases o with
  | eq => exact eqW_mono h k
  | ne => exact eqW_mono (Q := fun b => Q (!b)) h fun b => k _
  | is => exact isW_mono h k
  | isnot => exact isW_mono (Q := fun b => Q (!b)) h fun b => k _
  | inn => exact inW_mono h k
  | notin => exact inW_mono (Q := fun b => Q (!b)) h fun b => k _
  | _ => cases x <;> cases y <;> first | exact k _ h | exact h
theorem test_cmp (c : CxOk G X m n sc N) {o : Co} {op : CmpOp} (ho : coB o op = true) (hb' : plainB b = true) (ha : PE X a (tE G X W (wpE C x))) (hb : PE X b (tE G X W (wpE C y))) : PT X (.Compare a [op] [b] p) (tT G X W (wpE C (.cmp o x y))) :=
  PT.imp (pt_cmpR (op_cmp (G := G) (W := W) c.un ho) ha hb (by cases b <;> first | rfl | cases hb')) fun σ H Q ⟨e, S, Q', E', sr, hw, hQ, hE⟩ =>
    ⟨e, S, _, E', sr, hw, fun v H1 d S1 x1 r s q => ⟨e, S1, _, E', s, q, fun u H2 d2 S2 x2 r2 s2 q2 => ⟨σ, d, d2, r.ext x2, r2, e, S2, fun d' S' => ∃ k, d' = .bl k ∧ Q' (.bl k) S', E', s2, cmpW_mono q2 fun k q => ⟨k, rfl, q⟩,
      fun v' H' d' S' x' r' s' ⟨k, hk, q'⟩ => by
        subst hk
        cases rep_bl r'
        obtain ⟨k', h1, h2⟩ := hQ H' _ S' ((x1.trans x2).trans x') s' q'
        cases h1
        exact ⟨k, rfl, h2⟩, hE⟩, hE⟩, hE⟩
theorem last_no {o o' : CmpOp} {b c : Expr} (h : plainB c = true) : lastMarks [o, o'] [b, c] = false := by
  show behindInMarks o' c = false
  cases c <;> first | rfl | cases h
/-- a op b op c: what is shown of it -/
theorem chain_rd {o o' : Co} {σ : L2.St} {H : Hp} {Q : VK} (h : tE G X W (wpE C (.chain o o' x y z)) σ H Q) :
    tChain (rW G X W fun x y S Q => cmpW S o x y fun k => Q (.bl k) S) (rW G X W fun x y S Q => cmpW S o' x y fun k => Q (.bl k) S) (tE G X W (wpE C x)) (tE G X W (wpE C y)) (tE G X W (wpE C z)) σ H Q := by
  obtain ⟨e, S, Q', E', sr, hw, hQ, hE⟩ := h
  refine ⟨e, S, _, E', sr, hw, fun v H1 d S1 x1 r s q => ⟨e, S1, _, E', s, q, fun u H2 d2 S2 x2 r2 s2 q2 => ⟨σ, d, d2, r.ext x2, r2, e, S2,
    fun d' S' => ∃ k, d' = .bl k ∧ S' = S2 ∧ if k = true then wpE C z e S2 (fun z S3 => cmpW S3 o' d2 z fun k' => Q' (.bl k') S3) E' else Q' (.bl false) S2, E', s2, cmpW_mono q2 fun k q => ⟨k, rfl, rfl, q⟩,
      fun v' H' d' S' x' r' s' ⟨k, hk, hS, q'⟩ => ?_, hE⟩, hE⟩, hE⟩
  subst hk hS
  cases rep_bl r'
  refine ⟨k, rfl, ?_⟩
  cases k with
  | true =>
    rw [if_pos rfl] at q' ⊢
    exact ⟨e, _, _, E', s', q', fun w H4 d4 S4 x4 r4 s4 q4 => ⟨σ, d2, d4, (r2.ext x').ext x4, r4, e, S4, Q', E', s4, q4, fun v5 H5 d5 S5 x5 r5 s5 q5 => hQ v5 H5 d5 S5 ((((x1.trans x2).trans x').trans x4).trans x5) r5 s5 q5, hE⟩, hE⟩
  | false =>
    rw [if_neg Bool.false_ne_true] at q' ⊢
    exact hQ _ H' _ _ ((x1.trans x2).trans x') (.bl false) s' q'
theorem rule_chain (c : CxOk G X m n sc N) {o o' : Co} {op op' : CmpOp} (ho : coB o op = true) (ho' : coB o' op' = true) (hd : plainB d = true) (ha : PE X a (tE G X W (wpE C x))) (hb : PE X b (tE G X W (wpE C y))) (hc : PE X d (tE G X W (wpE C z))) :
    PE X (.Compare a [op, op'] [b, d] p) (tE G X W (wpE C (.chain o o' x y z))) :=
  PE.imp (pe_chain (op_cmp c.un ho) (op_cmp c.un ho') ha hb hc (last_no hd)) fun σ H Q h => chain_rd h
end
end PS
set_option maxHeartbeats 1000000
/-! PS, part 12: not, and, or, x if t else y, as values and as tests. -/
namespace PS
open PySem PySem.Spec PyProof.Rows L2 PD
section
variable {G : GT} {X : Cx} {W : WX} {m : Md} {n : Nat} {sc : Scope} {N : List String} {C : CallT}
variable {a b d e1 : Expr} {es er rest : List Expr} {x y z : Ex} {xs : List Ex} {p pos : Pos}
/-- of bools alone -/
def onB (Q : QV) : QV := fun d S => match d with
  | .bl k => Q (.bl k) S
  | _ => False
theorem onB_fin {σ : L2.St} {e : PD.Env} {Q' : QV} {Q : Bool → Hp → Prop} {H H' : Hp} {v : V} {d : D} {S' : Sto} (hQ : ∀ H' d S', Ext H H' → SR G X σ H' e S' → Q' d S' → ∃ k, tru S' d = some k ∧ Q k H') (x : Ext H H') (r : Rep X.K X.mg H' d v) (s : SR G X σ H' e S') (q : onB Q' d S') :
    ∃ k, v = .bl k ∧ Q k H' := by
  cases d with
  | bl k =>
    cases rep_bl r
    obtain ⟨k', h1, h2⟩ := hQ H' _ S' x s q
    cases h1
    exact ⟨k, rfl, h2⟩
  | _ => exact (show False from q).elim
theorem test_chain (c : CxOk G X m n sc N) {o o' : Co} {op op' : CmpOp} (ho : coB o op = true) (ho' : coB o' op' = true) (hd : plainB d = true) (ha : PE X a (tE G X W (wpE C x))) (hb : PE X b (tE G X W (wpE C y))) (hc : PE X d (tE G X W (wpE C z))) :
    PT X (.Compare a [op, op'] [b, d] p) (tT G X W (wpE C (.chain o o' x y z))) :=
  PT.imp (pt_chain (op_cmp (G := G) (W := W) c.un ho) (op_cmp (G := G) (W := W) c.un ho') ha hb hc (last_no hd)) fun σ H Q ⟨e, S, Q', E', sr, hw, hQ, hE⟩ =>
    chain_rd (o := o) (o' := o') (C := C) ⟨e, S, onB Q', E', sr, hw, fun v H' d S' x1 r s q => onB_fin hQ x1 r s q, hE⟩
theorem rule_not (ha : PE X a (tE G X W (wpE C x))) : PE X (.UnaryOp .Not a p) (tE G X W (wpE C (.not x))) :=
  PE.imp (pe_notT ha) fun σ H Q h => (tE.bind (k := fun v _ S1 Q _ => ∃ k, tru S1 v = some k ∧ Q (.bl (!k)) S1) h).imp fun v H1 _ ⟨_, d, r, h1⟩ => by
    obtain ⟨e, S, Q', sr, ⟨k, e1, q⟩, hQ⟩ := h1.fin (w := fun S Q => ∃ k, tru S d = some k ∧ Q (.bl (!k)) S)
    exact ⟨k, tru_of sr r e1, hQ _ H1 _ S (.refl _) (.bl _) sr q⟩
theorem rule_and (ha : PE X a (tE G X W (wpE C x))) (hb : PE X (.BoolOp .And (b :: rest) p) (tE G X W (wpE C y))) : PE X (.BoolOp .And (a :: b :: rest) p) (tE G X W (wpE C (.and x y))) :=
  PE.imp (pe_andT ha hb) fun σ H Q h => (tE.bind (k := fun v e S1 Q E => ∃ k, tru S1 v = some k ∧ if k = true then wpE C y e S1 Q E else Q v S1) h).imp fun v H1 _ ⟨_, d, r, e, S, Q', E', sr, ⟨k, e1, hw⟩, hQ, hE⟩ => by
    refine ⟨k, tru_of sr r e1, ?_⟩
    cases k with
    | true => exact ⟨e, S, Q', E', sr, hw, hQ, hE⟩
    | false => exact hQ _ H1 _ S (.refl _) r sr hw
theorem rule_or (ha : PE X a (tE G X W (wpE C x))) (hb : PE X (.BoolOp .Or (b :: rest) p) (tE G X W (wpE C y))) : PE X (.BoolOp .Or (a :: b :: rest) p) (tE G X W (wpE C (.or x y))) :=
  PE.imp (pe_orT ha hb) fun σ H Q h => (tE.bind (k := fun v e S1 Q E => ∃ k, tru S1 v = some k ∧ if k = true then Q v S1 else wpE C y e S1 Q E) h).imp fun v H1 _ ⟨_, d, r, e, S, Q', E', sr, ⟨k, e1, hw⟩, hQ, hE⟩ => by
    refine ⟨k, tru_of sr r e1, ?_⟩
    cases k with
    | false => exact ⟨e, S, Q', E', sr, hw, hQ, hE⟩
    | true => exact hQ _ H1 _ S (.refl _) r sr hw
/-- first a test, then the rest -/
theorem tT.bind {wa : PD.Env → Sto → QV → QX → Prop} {σ : L2.St} {H : Hp} {e : PD.Env} {S : Sto} {E' : QX} {k : Bool → Sto → Prop} {R : Bool → Hp → Prop} (sr : SR G X σ H e S) (h : wa e S (fun d S1 => ∃ c, tru S1 d = some c ∧ k c S1) E')
    (hR : ∀ c H1 S1, Ext H H1 → SR G X σ H1 e S1 → k c S1 → R c H1) (hE : ∀ x fs S' cls d H', SR G X σ H' e S' → XRep G X H' x fs cls d → E' x fs S' → W cls d σ H') : tT G X W wa σ H R :=
  ⟨e, S, _, E', sr, h, fun H1 d S1 x s ⟨c, h1, q⟩ => ⟨c, h1, hR c H1 S1 x s q⟩, hE⟩
theorem rule_ite (ht : PT X d (tT G X W (wpE C z))) (ha : PE X a (tE G X W (wpE C x))) (hb : PE X b (tE G X W (wpE C y))) : PE X (.IfExp d a b p) (tE G X W (wpE C (.ite z x y))) :=
  PE.imp (pe_ifExp ht ha hb) fun σ H Q ⟨e, S, Q', E', sr, hw, hQ, hE⟩ => tT.bind (wa := wpE C z) (k := fun c S1 => if c = true then wpE C x e S1 Q' E' else wpE C y e S1 Q' E') sr hw (fun c H1 S1 x1 s q => by
    cases c with
    | true => exact ⟨e, S1, Q', E', s, q, fun v' H' d' S' x' r' s' q' => hQ v' H' d' S' (x1.trans x') r' s' q', hE⟩
    | false => exact ⟨e, S1, Q', E', s, q, fun v' H' d' S' x' r' s' q' => hQ v' H' d' S' (x1.trans x') r' s' q', hE⟩) hE
theorem test_not (ha : PT X a (tT G X W (wpE C x))) : PT X (.UnaryOp .Not a p) (tT G X W (wpE C (.not x))) :=
  PT.imp (pt_not ha) fun σ H Q ⟨e, S, Q', E', sr, hw, hQ, hE⟩ => tT.bind (wa := wpE C x) (k := fun c S1 => Q' (.bl (!c)) S1) sr hw (fun c H1 S1 x1 s q => by
    obtain ⟨k, h1, h2⟩ := hQ H1 _ S1 x1 s q
    cases h1
    exact h2) hE
theorem and_rd {tb : TT} {σ : L2.St} {H : Hp} {Q : Bool → Hp → Prop} (hb : ∀ σ H Q, tT G X W (wpE C y) σ H Q → tb σ H Q) (h : tT G X W (wpE C (.and x y)) σ H Q) : tAnd (tT G X W (wpE C x)) tb σ H Q := by
  obtain ⟨e, S, Q', E', sr, hw, hQ, hE⟩ := h
  refine ⟨e, S, _, E', sr, hw, fun H1 d S1 x1 s q => ?_, hE⟩
  obtain ⟨k, h1, q⟩ := q
  refine ⟨k, h1, ?_⟩
  cases k with
  | true => exact hb _ _ _ ⟨e, S1, Q', E', s, q, fun H' d' S' x' s' q' => hQ H' d' S' (x1.trans x') s' q', hE⟩
  | false =>
    obtain ⟨k', h2, h3⟩ := hQ H1 d S1 x1 s q
    rw [h1] at h2
    cases h2
    exact h3
theorem or_rd {tb : TT} {σ : L2.St} {H : Hp} {Q : Bool → Hp → Prop} (hb : ∀ σ H Q, tT G X W (wpE C y) σ H Q → tb σ H Q) (h : tT G X W (wpE C (.or x y)) σ H Q) : tOr (tT G X W (wpE C x)) tb σ H Q := by
  obtain ⟨e, S, Q', E', sr, hw, hQ, hE⟩ := h
  refine ⟨e, S, _, E', sr, hw, fun H1 d S1 x1 s q => ?_, hE⟩
  obtain ⟨k, h1, q⟩ := q
  refine ⟨k, h1, ?_⟩
  cases k with
  | false => exact hb _ _ _ ⟨e, S1, Q', E', s, q, fun H' d' S' x' s' q' => hQ H' d' S' (x1.trans x') s' q', hE⟩
  | true =>
    obtain ⟨k', h2, h3⟩ := hQ H1 d S1 x1 s q
    rw [h1] at h2
    cases h2
    exact h3
theorem test_and1 (ha : PT X a (tT G X W (wpE C x))) (hb : PT X b (tT G X W (wpE C y))) : PW X (.BoolOp .And [a, b] p) (tT G X W (wpE C (.and x y))) :=
  PW.imp (pw_and ha (pw_and1 hb)) fun σ H Q h => and_rd (fun _ _ _ h => h) h
theorem test_and (ha : PT X a (tT G X W (wpE C x))) (hb : PW X (.BoolOp .And (b :: rest) p) (tT G X W (wpE C y))) : PW X (.BoolOp .And (a :: b :: rest) p) (tT G X W (wpE C (.and x y))) :=
  PW.imp (pw_and ha hb) fun σ H Q h => and_rd (fun _ _ _ h => h) h
theorem test_or1 (ha : PT X a (tT G X W (wpE C x))) (hb : PT X b (tT G X W (wpE C y))) : PW X (.BoolOp .Or [a, b] p) (tT G X W (wpE C (.or x y))) :=
  PW.imp (pw_or ha (pw_or1 hb)) fun σ H Q h => or_rd (fun _ _ _ h => h) h
theorem test_or (ha : PT X a (tT G X W (wpE C x))) (hb : PW X (.BoolOp .Or (b :: rest) p) (tT G X W (wpE C y))) : PW X (.BoolOp .Or (a :: b :: rest) p) (tT G X W (wpE C (.or x y))) :=
  PW.imp (pw_or ha hb) fun σ H Q h => or_rd (fun _ _ _ h => h) h
theorem test_ite (ht : PT X d (tT G X W (wpE C z))) (ha : PT X a (tT G X W (wpE C x))) (hb : PT X b (tT G X W (wpE C y))) : PT X (.IfExp d a b p) (tT G X W (wpE C (.ite z x y))) := by
  refine ⟨fun pins s σ H Q I h => ?_⟩
  obtain ⟨e, S, Q', E', sr, hw, hQ, hE⟩ := h
  rw [PySem.arm_isTrue_IfExp]
  refine wpAny_bind (thn (ht.run pins s σ H (fun c H1 => if c = true then tT G X W (wpE C x) σ H1 Q else tT G X W (wpE C y) σ H1 Q) I (tT.bind (wa := wpE C z) (k := fun c S1 => if c = true then wpE C x e S1 Q' E' else wpE C y e S1 Q' E') sr hw (fun c H1 S1 x1 s q => ?_) hE)) fun c s1 ⟨H1, I1, q⟩ => ?_)
  · cases c with
    | true => exact ⟨e, S1, Q', E', s, q, fun H' d' S' x' s' q' => hQ H' d' S' (x1.trans x') s' q', hE⟩
    | false => exact ⟨e, S1, Q', E', s, q, fun H' d' S' x' s' q' => hQ H' d' S' (x1.trans x') s' q', hE⟩
  · cases c with
    | true => exact ha.run pins s1 σ H1 Q I1 q
    | false => exact hb.run pins s1 σ H1 Q I1 q
end
end PS
set_option maxHeartbeats 2000000
/-! PS, part 13: what loops walk: a source of items; enumerate and zip over any sources. -/
namespace PS
open PySem PySem.Spec PyProof.Rows L2 PD

/-- what was there before the iterators -/
def Old (X : Cx) (H : Hp) (b : Addr) : Prop := H b ≠ none ∨ X.base.get? b ≠ none
theorem not_old {X : Cx} {pins : List (Addr × Obj)} {H : Hp} {b : Addr} (ok : X.Ok) (f : FpOk X pins H b) : ¬ Old X H b := fun h => by
  rcases h with h | h
  · exact h f.1
  · cases e : X.base.get? b with
    | none => exact h e
    | some o =>
      rcases f.2.2.2.1 with z | z
      · exact ok.noex b o e z
      · exact absurd (Nat.lt_of_lt_of_le (Heap.lt_size (ok.bs b o e).1) z) (Nat.lt_irrefl _)
/-- a source of items: an iterator at it, its cell told by cs, what it reads by lv -/
structure Src (P : Program) (w : World) (K : PySem.W.Frag) (it : Addr) (cs : Nat → Heap → Prop) (lv : Hp → List V → Prop) : Prop where
  obj : ∀ i h, cs i h → ∃ o, h.get? it = some o ∧ ∀ v, o.data ≠ .cell v
  keep : ∀ i h h', cs i h → (∀ o, h.get? it = some o → h'.get? it = some o) → cs i h'
  draws : ∀ {X : Cx}, X.prog = P → X.w = w → X.K = K → ∀ {pins : List (Addr × Obj)} {σ : L2.St} {H : Hp} {s : Shared}, Inv X pins σ H s → FpOk X pins H it → ∀ {vs : List V}, lv H vs →
    ∃ (fp : List Addr) (Pd : Nat → Value → Prop) (St : Nat → Heap → Prop), (∀ A', A'.handled = none → Draws P w A' it fp vs.length Pd St) ∧ it ∈ fp ∧ (∀ b ∈ fp, b = it ∨ Old X H b) ∧
      (∀ i, cs i s.heap → St i s.heap) ∧ (∀ i h, St i h → cs i h) ∧ ∀ i u v, Pd i u → vs[i]? = some v → RelV v u
section
variable {P : Program} {w : World} {K : PySem.W.Frag}
theorem src_list (it a : Addr) : Src P w K it (fun i h => h.IsListIter it a i) (fun H vs => SqL K H a vs) where
  obj := fun i h st => by
    obtain ⟨o, e, c, d⟩ := st
    exact ⟨o, e, fun v z => by rw [d] at z; cases z⟩
  keep := fun i h h' st k => st.at k
  draws := by
    intro X hP hw hK pins σ H s I f vs hl
    subst hP hw hK
    obtain ⟨its, rv, p, hz⟩ := I.list hl
    have old : Old X H a := by
      rcases hl with (h | ⟨o, h⟩) | ⟨o, its', n, h, _⟩
      · exact .inl (by rw [h]; exact fun z => by cases z)
      · exact .inl (by rw [h]; exact fun z => by cases z)
      · exact .inr (by rw [I.ok.mod.kin _ _ h]; exact fun z => by cases z)
    have ne : a ≠ it := fun z => not_old I.ok f (z ▸ old)
    refine ⟨[it, a], fun i v => its.toArray[i]? = some v, fun i h => h.IsListIter it a i ∧ h.IsList a its.toArray, fun A' hA => ?_, by simp, fun b hb => ?_, fun i h => ⟨h, p.isList⟩, fun i h st => st.1, fun i u v hu hv => ?_⟩
    · have := Draws.list (prog := X.prog) (w := X.w) hA it a ne its.toArray
      rw [show its.toArray.size = vs.length by rw [List.size_toArray, rv.length]] at this
      exact this
    · have : b = it ∨ b = a := by simpa using hb
      rcases this with rfl | rfl
      · exact .inl rfl
      · exact .inr old
    · obtain ⟨u', hu', r⟩ := rv.get hv
      have hu2 : its.toArray[i]? = some u := hu
      rw [show its.toArray[i]? = its[i]? by simp, hu'] at hu2
      cases hu2
      exact r
theorem src_tup (it a : Addr) : Src P w K it (fun i h => h.IsTupleIter it a i) (fun H vs => SqT K H a vs) where
  obj := fun i h st => by
    obtain ⟨o, e, c, d⟩ := st
    exact ⟨o, e, fun v z => by rw [d] at z; cases z⟩
  keep := fun i h h' st k => st.at k
  draws := by
    intro X hP hw hK pins σ H s I f vs hl
    subst hP hw hK
    obtain ⟨its, rv, p, hz⟩ := I.tuple hl
    have old : Old X H a := by
      rcases hl with (h | ⟨o, h⟩) | ⟨o, its', n, h, _⟩
      · exact .inl (by rw [h]; exact fun z => by cases z)
      · exact .inl (by rw [h]; exact fun z => by cases z)
      · exact .inr (by rw [I.ok.mod.kin _ _ h]; exact fun z => by cases z)
    have ne : a ≠ it := fun z => not_old I.ok f (z ▸ old)
    refine ⟨[it, a], fun i v => its.toArray[i]? = some v, fun i h => h.IsTupleIter it a i ∧ h.IsTuple a its.toArray, fun A' hA => ?_, by simp, fun b hb => ?_, fun i h => ⟨h, (show s.heap.IsTuple a its.toArray from p)⟩, fun i h st => st.1, fun i u v hu hv => ?_⟩
    · have := Draws.tuple (prog := X.prog) (w := X.w) hA it a ne its.toArray
      rw [show its.toArray.size = vs.length by rw [List.size_toArray, rv.length]] at this
      exact this
    · have : b = it ∨ b = a := by simpa using hb
      rcases this with rfl | rfl
      · exact .inl rfl
      · exact .inr old
    · obtain ⟨u', hu', r⟩ := rv.get hv
      have hu2 : its.toArray[i]? = some u := hu
      rw [show its.toArray[i]? = its[i]? by simp, hu'] at hu2
      cases hu2
      exact r
def signV (x : Str) : List V := x.cps.toList.map fun c => V.str ⟨#[c]⟩
theorem src_str (it : Addr) (x : Str) (t : Tok) : Src P w K it (fun i h => h.IsStrIter it (strIterType x) x t i) (fun _ vs => vs = signV x) where
  obj := fun i h st => by
    obtain ⟨o, e, c, d⟩ := st
    exact ⟨o, e, fun v z => by rw [d] at z; cases z⟩
  keep := fun i h h' st k => let ⟨o, ho, r⟩ := st; ⟨o, k o ho, r⟩
  draws := by
    intro X hP hw hK pins σ H s I f vs hl
    subst hP hw hK hl
    refine ⟨[it], fun i v => ∃ c u, x.cps[i]? = some c ∧ v = .str ⟨#[c]⟩ u, fun i h => h.IsStrIter it (strIterType x) x t i, fun A' hA => ?_, by simp, fun b hb => .inl (by simpa using hb), fun i h => h, fun i h st => st, fun i u v hu hv => ?_⟩
    · have := Draws.text (prog := X.prog) (w := X.w) hA it x t
      rw [show x.cps.size = (signV x).length by simp [signV]] at this
      exact this
    · obtain ⟨c, t', hc, rfl⟩ := hu
      unfold signV at hv
      rw [List.getElem?_map] at hv
      rw [show x.cps.toList[i]? = x.cps[i]? by simp, hc] at hv
      cases hv
      exact ⟨t', rfl⟩
/-- a new tuple of what came, behind the iterators' turn -/
theorem turn_new {X : Cx} {pins : List (Addr × Obj)} {σ : L2.St} {H : Hp} {s : Shared} (I : Inv X pins σ H s) {ch : List Addr} (hf : ∀ b ∈ ch, FpOk X pins H b) {T : Addr} {h' : Heap} {vals : List Value} {vs : List V} {tk : Nat}
    (hT : s.heap.objs.size ≤ T) (it : h'.IsTuple T vals.toArray) (r : Vals vs vals) (hl : vs.length ≤ sizeLine) (k : ∀ b o, b ∉ ch → s.heap.get? b = some o → h'.get? b = some o) :
    Inv X pins σ (upd H T (.tup vs)) { s with heap := h', toks := tk } := I.turnedNew (ch := ch) k hf hT ⟨hl, vals, r, it⟩
/-- each item with its number -/
def ItE (lv : Hp → List V → Prop) : It :=
  ⟨fun i H => ∃ vs, lv H vs ∧ i < vs.length, fun i H v H' => ∃ T vs x, v = .ref T ∧ H T = none ∧ H' = upd H T (.tup [.int (i : Nat), x]) ∧ lv H vs ∧ vs[i]? = some x, fun i H => ∃ vs, lv H vs ∧ i = vs.length⟩
theorem turn_enumS {e it : Addr} {cs : Nat → Heap → Prop} {lv : Hp → List V → Prop} (S : Src P w K it cs lv) {elts : List Expr} {kk : Nat} {tpos : Pos} :
    Turn P w K (.Tuple elts kk tpos) (ItE lv) [e, it] e (fun i h => (∃ old, IsEnum h e it ((i : Nat) : Int) old) ∧ cs i h ∧ e ≠ it) where
  mem := by simp
  obj := fun i h st b hb => by
    obtain ⟨⟨old, he⟩, hc, _⟩ := st
    have e' : b = e ∨ b = it := by simpa using hb
    rcases e' with z | z
    · rw [z]; exact ⟨_, he, fun v q => nomatch q⟩
    · rw [z]; exact S.obj i h hc
  keep := fun i h h' st k => let ⟨⟨old, he⟩, hi, hne⟩ := st; ⟨⟨old, k e (by simp) _ he⟩, S.keep i h h' hi fun o q => k it (by simp) o q, hne⟩
  item := by
    intro X hP hw hK hc i pins s σ H E I hf st hg
    obtain ⟨⟨old, he⟩, hit, hne⟩ := st
    obtain ⟨vs, hl, hi⟩ := hg
    obtain ⟨fp, Pd, St, D, d1, d2, d3, d4, d5⟩ := S.draws hP hw hK I (hf it (by simp)) hl
    subst hP hw hK
    have hef : e ∉ fp := fun z => (d2 e z).elim hne (not_old I.ok (hf e (by simp)))
    have W := WalksT.enumFrom 0 (D X.A.in1 (I.ok.hd hc)) e hne hef d1
    have e0 : (0 : Int) + ((i : Nat) : Int) = (i : Int) := by omega
    refine W.item i s _ _ hi ⟨⟨old, by rw [e0]; exact he⟩, d3 i hit⟩ fun T vals h' tk hP hT hIs hm hk => ?_
    obtain ⟨t, u, hu, rfl⟩ := hP
    rw [e0] at hIs
    refine ⟨_, rfl, W.go elts kk tpos i T { s with heap := h', toks := tk } _ _ hm fun h'' st'' hk2 => ?_⟩
    obtain ⟨x, hx⟩ : ∃ x, vs[i]? = some x := ⟨vs[i], List.getElem?_eq_getElem hi⟩
    have hTn : T ∉ [e, it] := W.apart i T h' hm
    have I1 := turn_new (tk := tk) I hf (T := T) (h' := h'') (vals := [.int i t, u]) (vs := [.int (i : Nat), x]) hT (hIs.at fun o q => hk2 T o hTn q) (.cons ⟨_, rfl⟩ (.cons (d5 i u x hu hx) .nil)) (by show 2 ≤ sizeLine; decide)
      fun b o hb q => hk2 b o hb (hk b o hb q)
    refine ⟨.ref T, _, I1, rfl, ⟨T, vs, x, rfl, I.hok.fresh hT, rfl, hl, hx⟩, ⟨?_, d4 _ _ st''.2, hne⟩, fun b hb => ?_⟩
    · obtain ⟨⟨o, ho⟩, _⟩ := st''
      have e1 : (0 : Int) + ((i + 1 : Nat) : Int) = ((i + 1 : Nat) : Int) := by omega
      rw [e1] at ho
      exact ⟨o, ho⟩
    · rw [upd_ne (fun q : b = T => hTn (by rw [← q]; exact hb))]
      exact (hf b hb).1
  done := by
    intro X hP hw hK hc i pins s σ H E I hf st hg
    obtain ⟨⟨old, he⟩, hit, hne⟩ := st
    obtain ⟨vs, hl, hi⟩ := hg
    obtain ⟨fp, Pd, St, D, d1, d2, d3, d4, d5⟩ := S.draws hP hw hK I (hf it (by simp)) hl
    subst hP hw hK hi
    have hef : e ∉ fp := fun z => (d2 e z).elim hne (not_old I.ok (hf e (by simp)))
    have W := WalksT.enumFrom 0 (D X.A.in1 (I.ok.hd hc)) e hne hef d1
    have e0 : (0 : Int) + ((vs.length : Nat) : Int) = (vs.length : Int) := by omega
    exact W.done s _ _ ⟨⟨old, by rw [e0]; exact he⟩, d3 _ hit⟩ fun h' tk hk => ⟨rfl, I.turnedL hk hf⟩
  self := fun A i s Q E st h => let ⟨⟨_, he⟩, _⟩ := st; wpAny_pyIter_enum he h
/-- two at a time -/
def ItZ (lv1 lv2 : Hp → List V → Prop) : It :=
  ⟨fun i H => ∃ vs ws, lv1 H vs ∧ lv2 H ws ∧ i < min vs.length ws.length,
    fun i H v H' => ∃ T vs ws x y, v = .ref T ∧ H T = none ∧ H' = upd H T (.tup [x, y]) ∧ lv1 H vs ∧ lv2 H ws ∧ vs[i]? = some x ∧ ws[i]? = some y, fun i H => ∃ vs ws, lv1 H vs ∧ lv2 H ws ∧ i = min vs.length ws.length⟩
theorem turn_zipS {z TI TO i1 i2 : Addr} {c1 c2 : Nat → Heap → Prop} {lv1 lv2 : Hp → List V → Prop} (S1 : Src P w K i1 c1 lv1) (S2 : Src P w K i2 c2 lv2) (nd : [z, TI, TO, i1, i2].Nodup) {elts : List Expr} {kk : Nat} {tpos : Pos} :
    Turn P w K (.Tuple elts kk tpos) (ItZ lv1 lv2) [z, TI, TO, i1, i2] z (fun i h => IsZip h z TI TO .none ∧ IsTupOf2 h TI (.ref i1) (.ref i2) ∧ (∃ a1 a2, IsTupOf2 h TO a1 a2) ∧ c1 i h ∧ c2 i h) where
  mem := by simp
  obj := fun i h st b hb => by
    obtain ⟨hz, hTI, ⟨a1, a2, hTO⟩, h1, h2⟩ := st
    have e' : b = z ∨ b = TI ∨ b = TO ∨ b = i1 ∨ b = i2 := by simpa using hb
    rcases e' with q | q | q | q | q
    · rw [q]; exact ⟨_, hz, fun v q => nomatch q⟩
    · rw [q]; exact ⟨_, hTI, fun v q => nomatch q⟩
    · rw [q]; exact ⟨_, hTO, fun v q => nomatch q⟩
    · rw [q]; exact S1.obj i h h1
    · rw [q]; exact S2.obj i h h2
  keep := fun i h h' st k => by
    obtain ⟨hz, hTI, ⟨a1, a2, hTO⟩, h1, h2⟩ := st
    exact ⟨k z (by simp) _ hz, k TI (by simp) _ hTI, ⟨a1, a2, k TO (by simp) _ hTO⟩, S1.keep i h h' h1 fun o q => k i1 (by simp) o q, S2.keep i h h' h2 fun o q => k i2 (by simp) o q⟩
  item := by
    intro X hP hw hK hc i pins s σ H E I hf st hg
    obtain ⟨hz, hTI, hTO, h1, h2⟩ := st
    obtain ⟨vs, ws, l1, l2, hi⟩ := hg
    obtain ⟨fp, Pd, St, D, d1, d2, d3, d4, d5⟩ := S1.draws hP hw hK I (hf i1 (by simp)) l1
    obtain ⟨fp2, Pd2, St2, D2, e1, e2, e3, e4, e5⟩ := S2.draws hP hw hK I (hf i2 (by simp)) l2
    subst hP hw hK
    have no : ∀ b ∈ [z, TI, TO, i1, i2], ¬ Old X H b := fun b hb => not_old I.ok (hf b hb)
    simp only [List.nodup_cons, List.mem_cons, List.not_mem_nil, or_false, not_or] at nd
    obtain ⟨⟨n1, n2, n3, n4⟩, ⟨n5, n6, n7⟩, ⟨n8, n9⟩, n10, _⟩ := nd
    have sep : ZipSep2 z TI TO i1 i2 fp fp2 :=
      ⟨Ne.symm n1, Ne.symm n2, n5, n6, d1, fun q => (d2 _ q).elim n3 (no z (by simp)), fun q => (d2 _ q).elim n8 (no TO (by simp)), n7, e1, fun q => (e2 _ q).elim n4 (no z (by simp)), fun q => (e2 _ q).elim n9 (no TO (by simp)),
        fun q => (e2 _ q).elim n10 (no i1 (by simp)), fun q => (d2 _ q).elim (Ne.symm n10) (no i2 (by simp))⟩
    have W := WalksT.zipD2 sep (D X.A.in1 (I.ok.hd hc)) (D2 X.A.in1 (I.ok.hd hc))
    refine W.item i s _ _ hi ⟨hz, hTI, hTO, d3 i h1, e3 i h2⟩ fun T vals h' tk hP hT hIs hm hk => ?_
    obtain ⟨u1, u2, hu1, hu2, rfl⟩ := hP
    refine ⟨_, rfl, W.go elts kk tpos i T { s with heap := h', toks := tk } _ _ hm fun h'' st'' hk2 => ?_⟩
    obtain ⟨x, hx⟩ : ∃ x, vs[i]? = some x := ⟨vs[i], List.getElem?_eq_getElem (by omega)⟩
    obtain ⟨y, hy⟩ : ∃ y, ws[i]? = some y := ⟨ws[i], List.getElem?_eq_getElem (by omega)⟩
    have hTn : T ∉ [z, TO, i1, i2] := W.apart i T h' hm
    have sub : ∀ b, b ∉ [z, TI, TO, i1, i2] → b ∉ [z, TO, i1, i2] := fun b hb q => hb (by simp only [List.mem_cons, List.not_mem_nil, or_false] at q ⊢; rcases q with q | q | q | q <;> simp [q])
    have I1 := turn_new (tk := tk) I hf (T := T) (h' := h'') (vals := [u1, u2]) (vs := [x, y]) hT (hIs.at fun o q => hk2 T o hTn q) (.cons (d5 i u1 x hu1 hx) (.cons (e5 i u2 y hu2 hy) .nil)) (by show 2 ≤ sizeLine; decide)
      fun b o hb q => hk2 b o (sub b hb) (hk b o (sub b hb) q)
    refine ⟨.ref T, _, I1, rfl, ⟨T, vs, ws, x, y, rfl, I.hok.fresh hT, rfl, l1, l2, hx, hy⟩, ⟨st''.1, st''.2.1, st''.2.2.1, d4 _ _ st''.2.2.2.1, e4 _ _ st''.2.2.2.2⟩, fun b hb => ?_⟩
    have : ∃ o, s.heap.get? b = some o := by
      have e' : b = z ∨ b = TI ∨ b = TO ∨ b = i1 ∨ b = i2 := by simpa using hb
      obtain ⟨a1, a2, hTO⟩ := hTO
      rcases e' with q | q | q | q | q
      · rw [q]; exact ⟨_, hz⟩
      · rw [q]; exact ⟨_, hTI⟩
      · rw [q]; exact ⟨_, hTO⟩
      · rw [q]; exact let ⟨o, h, _⟩ := S1.obj i _ h1; ⟨o, h⟩
      · rw [q]; exact let ⟨o, h, _⟩ := S2.obj i _ h2; ⟨o, h⟩
    obtain ⟨o, ho⟩ := this
    rw [upd_ne (Nat.ne_of_lt (Nat.lt_of_lt_of_le (Heap.lt_size ho) hT))]
    exact (hf b hb).1
  done := by
    intro X hP hw hK hc i pins s σ H E I hf st hg
    obtain ⟨hz, hTI, hTO, h1, h2⟩ := st
    obtain ⟨vs, ws, l1, l2, hi⟩ := hg
    obtain ⟨fp, Pd, St, D, d1, d2, d3, d4, d5⟩ := S1.draws hP hw hK I (hf i1 (by simp)) l1
    obtain ⟨fp2, Pd2, St2, D2, e1, e2, e3, e4, e5⟩ := S2.draws hP hw hK I (hf i2 (by simp)) l2
    subst hP hw hK hi
    have no : ∀ b ∈ [z, TI, TO, i1, i2], ¬ Old X H b := fun b hb => not_old I.ok (hf b hb)
    simp only [List.nodup_cons, List.mem_cons, List.not_mem_nil, or_false, not_or] at nd
    obtain ⟨⟨n1, n2, n3, n4⟩, ⟨n5, n6, n7⟩, ⟨n8, n9⟩, n10, _⟩ := nd
    have sep : ZipSep2 z TI TO i1 i2 fp fp2 :=
      ⟨Ne.symm n1, Ne.symm n2, n5, n6, d1, fun q => (d2 _ q).elim n3 (no z (by simp)), fun q => (d2 _ q).elim n8 (no TO (by simp)), n7, e1, fun q => (e2 _ q).elim n4 (no z (by simp)), fun q => (e2 _ q).elim n9 (no TO (by simp)),
        fun q => (e2 _ q).elim n10 (no i1 (by simp)), fun q => (d2 _ q).elim (Ne.symm n10) (no i2 (by simp))⟩
    have W := WalksT.zipD2 sep (D X.A.in1 (I.ok.hd hc)) (D2 X.A.in1 (I.ok.hd hc))
    have sub : ∀ b, b ∉ [z, TI, TO, i1, i2] → b ∉ [z, TO, i1, i2] := fun b hb q => hb (by simp only [List.mem_cons, List.not_mem_nil, or_false] at q ⊢; rcases q with q | q | q | q <;> simp [q])
    exact W.done s _ _ ⟨hz, hTI, hTO, d3 _ h1, e3 _ h2⟩ fun h' tk hk => ⟨rfl, I.turnedL (fun b o hb q => hk b o (sub b hb) q) hf⟩
  self := fun A i s Q E st h => wpAny_pyIter_zip st.1 h
end
end PS
set_option maxHeartbeats 2000000
/-! PS, part 14: the rules of what loops walk. -/
namespace PS
open PySem PySem.Spec PyProof.Rows L2 PD

set_option maxHeartbeats 4000000 in
theorem meets_enum1 {v : Value} {o : Obj} {H : Heap → Prop} (B : Begins v o H) :
    Meets (Builtin.«enumerate.__new__» ⟨[.type "enumerate", v], []⟩) (fun _ R s => H s.heap ∧
      R (.ok (.ret (.ref (s.heap.push o).objs.size))) { s with heap := (s.heap.push o).push { cls := .type "enumerate", data := .fields #[.none, .bool false, .ref s.heap.objs.size, rawInt 0, .none, .none] } }) :=
  .of_wp fun prog w A R s h => by
    obtain ⟨hp, g, d, tk, os⟩ := s; obtain ⟨h1, h⟩ := h
    have hsub := sub_enumerate
    have q1 : ∀ {A' : Around} {E : Value → Shared → Prop} {Q : Value → Shared → Prop}, Q (.ref hp.objs.size) ⟨hp.push o, g, d, tk, os⟩ → wpAny (model prog w) A' (pyIter v) Q E ⟨hp, g, d, tk, os⟩ :=
      fun q => B.iter prog w _ _ ⟨hp, g, d, tk, os⟩ _ h1 q
    wp_walk using q1
    refine wpAny_stack_any fun st => wpAny_pure ?_
    split
    · rename_i c _ _ _ _ _
      cases (c == Value.type "enumerate") <;>
        (wp_walk using q1
         exact ⟨_, rfl, h⟩)
    · wp_walk using q1
      exact ⟨_, rfl, h⟩
theorem call_enum1 {prog : Program} {w : World} {A : Around} {E : Value → Shared → Prop} {s : Shared} {v : Value} {o : Obj} {H : Heap → Prop} {Q : Value → Shared → Prop} (B : Begins v o H) (h1 : H s.heap)
    (h : ∀ h', IsEnum h' (s.heap.objs.size + 1) s.heap.objs.size 0 .none → h'.get? s.heap.objs.size = some o → (∀ b o, s.heap.get? b = some o → h'.get? b = some o) → Q (.ref (s.heap.objs.size + 1)) { s with heap := h' }) :
    wpAny (model prog w) A (call (.type "enumerate") [v]) Q E s := by
  refine callType_new F.called_enumerate (by decide) (F.typeCall_enumerate_1 _) (F.newCall_enumerate_1 _) (fun obj => F.args_object_init_2 obj _) F.entry_enumerate_new (meets_enum1 B) ⟨h1, ?_⟩
  have hz : (s.heap.push o).objs.size = s.heap.objs.size + 1 := Heap.size_push ..
  show _ ∧ _
  rw [hz]
  have he := Heap.get?_push_size (s.heap.push o) (o := { cls := .type "enumerate", data := .fields #[.none, .bool false, .ref s.heap.objs.size, rawInt 0, .none, .none] }) rfl
  rw [hz] at he
  exact ⟨⟨_, he, rfl⟩, h _ he (Heap.get?_push_of_some _ (Heap.get?_push_size _ B.free)) fun b o x => Heap.get?_push_of_some _ (Heap.get?_push_of_some _ x)⟩
section
variable {G : GT} {X : Cx} {W : WX} {m : Md} {n : Nat} {sc : Scope} {N : List String} {C : CallT}
/-- what is read stands for the items -/
def LvOk (X : Cx) (lv : Hp → List V → Prop) (H0 : Hp) (xs : List D) (stay : Sto → Prop) : Prop :=
  (∀ H vs, lv H vs → Reps X.K X.mg H xs vs) ∧ ∀ H S, Ext H0 H → SRel X.K X.mg H S → stay S → ∃ vs, lv H vs
theorem Src.mono {P : Program} {w : World} {K : PySem.W.Frag} {it : Addr} {cs : Nat → Heap → Prop} {lv lv' : Hp → List V → Prop} (S : Src P w K it cs lv) (h : ∀ H vs, lv' H vs → lv H vs) : Src P w K it cs lv' :=
  ⟨S.obj, S.keep, by
    intro X hP hw hK pins σ H s I f vs hl
    exact S.draws hP hw hK I f (h _ _ hl)⟩
/-- the items of a value: how they are begun and read -/
theorem src_of {pins : List (Addr × Obj)} {σ : L2.St} {H : Hp} {s : Shared} {e : PD.Env} {S : Sto} {d : D} {v : V} {u : Value} {xs : List D} (I : Inv X pins σ H s) (sr : SR G X σ H e S) (r : Rep X.K X.mg H d v) (rv : RelV v u) (h : itemsOf S d = some xs) :
    ∃ (o : Obj) (Hc : Heap → Prop) (cs : Addr → Nat → Heap → Prop) (lv : Hp → List V → Prop), Begins u o Hc ∧ Hc s.heap ∧ (∀ it, Src X.prog X.w X.K it (cs it) lv) ∧ (∀ it h, h.get? it = some o → cs it 0 h) ∧ LvOk X lv H xs (stays S d) ∧ ((∀ t, d ≠ .str t) → xs.length ≤ Line) := by
  rcases items_sq sr r h with ⟨p, vs, rfl, hs, q, nstr⟩ | ⟨t, rfl, rfl⟩
  · cases rv
    have stay : ∀ H' S', Ext H H' → SRel X.K X.mg H' S' → stays S d S' → ∃ ws, (SqL X.K H' p ws ∨ SqT X.K H' p ws) ∧ Reps X.K X.mg H' xs ws ∧ ((∃ a, d = .ref a) ∨ (∃ zs, d = .fls zs) → SqL X.K H' p ws) ∧ ((∃ zs, d = .tup zs) → SqT X.K H' p ws) := fun H' S' x sr' st => by
      cases d with
      | tup ys =>
        obtain ⟨a, ws, e1, h1, q1⟩ := rep_tup r
        cases e1
        cases h
        exact ⟨ws, .inr (sqt_ext x h1), q1.ext x, (fun z => by rcases z with ⟨_, z⟩ | ⟨_, z⟩ <;> cases z), fun _ => sqt_ext x h1⟩
      | fls ys =>
        obtain ⟨a, ws, e1, h1, q1⟩ := rep_fls r
        cases e1
        cases h
        exact ⟨ws, .inl (frl_ext x h1).sq, q1.ext x, fun _ => (frl_ext x h1).sq, fun ⟨_, z⟩ => by cases z⟩
      | ref a =>
        have e1 := rep_ref r
        cases e1
        simp only [itemsOf] at h
        split at h
        · rename_i ys k1
          cases h
          have k2 : S' p = some (.lst xs) := (show S' p = S p from st).trans k1
          obtain ⟨ws, h1, q1⟩ := sr' p _ k2
          exact ⟨ws, .inl (.of h1), q1, fun _ => .of h1, fun ⟨_, z⟩ => by cases z⟩
        · cases h
      | str t => exact absurd rfl (nstr t)
      | _ => cases h
    by_cases tp : ∃ zs, d = .tup zs
    · obtain ⟨ws, _, q1, _, h1⟩ := stay H S (.refl H) sr.sto (by cases d <;> first | trivial | rfl)
      obtain ⟨its, r1, p1, hz⟩ := I.tuple (h1 tp)
      refine ⟨_, _, fun it i h => h.IsTupleIter it p i, fun H vs => SqT X.K H p vs ∧ Reps X.K X.mg H xs vs, begins_tuple p its.toArray, (show s.heap.IsTuple p its.toArray from p1), fun it => (src_tup it p).mono fun _ _ h => h.1, fun it h e => ⟨_, e, rfl, rfl⟩, ⟨fun H vs h => h.2, fun H' S' x sr' st => ?_⟩, fun _ => by rw [q1.len, ← line_eq]; exact hz⟩
      obtain ⟨ws, _, q2, _, h2⟩ := stay H' S' x sr' st
      exact ⟨ws, h2 tp, q2⟩
    · have tl : (∃ a, d = .ref a) ∨ ∃ zs, d = .fls zs := by
        cases d with
        | tup ys => exact absurd ⟨ys, rfl⟩ tp
        | ref a => exact .inl ⟨a, rfl⟩
        | fls ys => exact .inr ⟨ys, rfl⟩
        | str t => exact absurd rfl (nstr t)
        | _ => cases h
      obtain ⟨ws, _, q1, h1, _⟩ := stay H S (.refl H) sr.sto (by cases d <;> first | trivial | rfl)
      obtain ⟨its, r1, p1, hz⟩ := I.list (h1 tl)
      refine ⟨_, _, fun it i h => h.IsListIter it p i, fun H vs => SqL X.K H p vs ∧ Reps X.K X.mg H xs vs, begins_list p its.toArray, p1.isList, fun it => (src_list it p).mono fun _ _ h => h.1, fun it h e => ⟨_, e, rfl, rfl⟩, ⟨fun H vs h => h.2, fun H' S' x sr' st => ?_⟩, fun _ => by rw [q1.len, ← line_eq]; exact hz⟩
      obtain ⟨ws, _, q2, h2, _⟩ := stay H' S' x sr' st
      exact ⟨ws, h2 tl, q2⟩
  · cases rep_str r
    obtain ⟨tk, rfl⟩ := rv
    refine ⟨_, _, fun it i h => h.IsStrIter it (strIterType (cs t)) (cs t) tk i, fun _ vs => vs = signV (cs t), begins_text (cs t) tk, trivial, fun it => src_str it (cs t) tk, fun it h e => ⟨_, e, rfl, rfl⟩, ⟨fun H vs h => ?_, fun _ _ _ _ _ => ⟨_, rfl⟩⟩, fun z => absurd rfl (z t)⟩
    subst h
    unfold signV
    rw [cs_cps]
    have : ∀ l : List Nat, Reps X.K X.mg H (l.map fun c => D.str [c]) (l.map fun c => V.str ⟨#[c]⟩) := fun l => by
      induction l with
      | nil => exact .nil
      | cons c l ih => exact .cons (.str [c]) ih
    exact this t
/-- an iterator over these items -/
def ItOk (X : Cx) (J : It) (H0 : Hp) (ds : List D) (stay : Sto → Prop) : Prop := ∀ i H S, Ext H0 H → SRel X.K X.mg H S → stay S →
  (i = ds.length → J.stop i H) ∧ (i < ds.length → J.go i H ∧ ∀ x H', J.yld i H x H' → Ext H H' ∧ TExt H H' ∧ SRel X.K X.mg H' S ∧ ∃ d, ds[i]? = some d ∧ Rep X.K X.mg H' d x)
/-- THE READING of what a loop walks -/
def tI (G : GT) (X : Cx) (W : WX) (w : PD.Env → Sto → QI → QX → Prop) : TI := fun σ H R => ∃ e S QI E', SR G X σ H e S ∧ w e S QI E' ∧
  (∀ J H' ds stay S', Ext H H' → SR G X σ H' e S' → ItOk X J H' ds stay → QI ds stay S' → R J H') ∧
  (∀ x fs S' cls d H', SR G X σ H' e S' → XRep G X H' x fs cls d → E' x fs S' → W cls d σ H')
theorem PI.imp {tg x : Expr} {t t' : TI} (h : PI X tg x t) (k : ∀ σ H R, t' σ H R → t σ H R) : PI X tg x t' := ⟨fun pins s σ H R I q => h.run pins s σ H R I (k σ H R q)⟩
/-- plain items -/
def ItP (lv : Hp → List V → Prop) : It :=
  ⟨fun i H => ∃ vs, lv H vs ∧ i < vs.length, fun i H x H' => H' = H ∧ ∃ vs, lv H vs ∧ vs[i]? = some x, fun i H => ∃ vs, lv H vs ∧ i = vs.length⟩
theorem itE_ok {lv : Hp → List V → Prop} {H0 : Hp} {xs : List D} {stay : Sto → Prop} (l : LvOk X lv H0 xs stay) : ItOk X (ItE lv) H0 (enumL 0 xs) stay := fun i H S x sr st => by
  obtain ⟨vs, hv⟩ := l.2 H S x sr st
  have hl := (l.1 H vs hv).len
  have el : ∀ (k : Nat) (l : List D), (enumL k l).length = l.length := fun k l => by
    induction l generalizing k with
    | nil => rfl
    | cons a l ih => exact congrArg (· + 1) (ih (k + 1))
  have eg : ∀ (k : Nat) (l : List D) (i : Nat), (enumL k l)[i]? = (l[i]?).map fun d => .tup [.int ((k + i : Nat) : Int), d] := fun k l i => by
    induction l generalizing k i with
    | nil => simp [enumL]
    | cons a l ih =>
      cases i with
      | zero => simp [enumL]
      | succ i =>
        simp only [enumL, List.getElem?_cons_succ]
        rw [ih]
        rw [show k + 1 + i = k + (i + 1) by omega]
  refine ⟨fun h => ⟨vs, hv, by rw [h, el, hl]⟩, fun h => ⟨⟨vs, hv, by rw [← hl, ← el 0]; exact h⟩, fun y H' hy => ?_⟩⟩
  obtain ⟨T, ws, z, rfl, hT, rfl, hw, hz⟩ := hy
  obtain ⟨d, hd, rd⟩ := (l.1 H ws hw).getV hz
  refine ⟨.new hT, .new hT, sr.new hT, .tup [.int (i : Nat), d], ?_, .tup (.of upd_same) (.cons (.int _) (.cons (rd.ext (.new hT)) .nil))⟩
  rw [eg, hd]
  simp
theorem itZ_ok {lv1 lv2 : Hp → List V → Prop} {H0 : Hp} {xs ys : List D} {stay : Sto → Prop} (l1 : LvOk X lv1 H0 xs stay) (l2 : LvOk X lv2 H0 ys stay) : ItOk X (ItZ lv1 lv2) H0 (zipL [xs, ys]) stay := fun i H S x sr st => by
  obtain ⟨vs, hv⟩ := l1.2 H S x sr st
  obtain ⟨ws, hw⟩ := l2.2 H S x sr st
  have h1 := (l1.1 H vs hv).len
  have h2 := (l2.1 H ws hw).len
  have el : (zipL [xs, ys]).length = min xs.length ys.length := by simp [zipL]
  refine ⟨fun h => ⟨vs, ws, hv, hw, by rw [h, el, h1, h2]⟩, fun h => ⟨⟨vs, ws, hv, hw, by rw [← h1, ← h2, ← el]; exact h⟩, fun y H' hy => ?_⟩⟩
  obtain ⟨T, vs', ws', a, b, rfl, hT, rfl, hv', hw', ha, hb⟩ := hy
  obtain ⟨d1, e1, r1⟩ := (l1.1 H vs' hv').getV ha
  obtain ⟨d2, e2, r2⟩ := (l2.1 H ws' hw').getV hb
  refine ⟨.new hT, .new hT, sr.new hT, .tup [d1, d2], ?_, .tup (.of upd_same) (.cons (r1.ext (.new hT)) (.cons (r2.ext (.new hT)) .nil))⟩
  show ((xs.zip ys).map fun p => D.tup [p.1, p.2])[i]? = _
  have z : (xs.zip ys)[i]? = some (d1, d2) := List.getElem?_zip_eq_some.mpr ⟨e1, e2⟩
  rw [List.getElem?_map, z]
  rfl
end
end PS
set_option maxHeartbeats 2000000
/-! PS, part 15: the rules of what loops walk, by their text. -/
namespace PS
open PySem PySem.Spec PyProof.Rows L2 PD
section
variable {G : GT} {X : Cx} {W : WX} {m : Md} {n : Nat} {sc : Scope} {N : List String} {C : CallT}
variable {a b d e1 tg : Expr} {es er rest elts : List Expr} {x y z : Ex} {xs : List Ex} {p pos tpos : Pos} {kk : Nat}
/-- plain items, as the library's own iterators tell them -/
theorem itl_ok {lv : Hp → List V → Prop} {H0 : Hp} {ds : List D} {stay : Sto → Prop} {q : Addr} (hl : ∀ H vs, lv H vs → SqL X.K H q vs) (l : LvOk X lv H0 ds stay) : ItOk X (Itl X.K q) H0 ds stay := fun i H S x sr st => by
  obtain ⟨vs, hv⟩ := l.2 H S x sr st
  have h1 := (l.1 H vs hv).len
  refine ⟨fun h => ⟨vs, hl H vs hv, by omega⟩, fun h => ⟨⟨vs, vs[i]'(by omega), hl H vs hv, List.getElem?_eq_getElem _⟩, fun y H' hy => ?_⟩⟩
  obtain ⟨rfl, hy⟩ := hy
  obtain ⟨d, hd, rd⟩ := (l.1 H' vs hv).getV (hy vs (hl H' vs hv))
  exact ⟨.refl _, fun _ _ q => q, sr, d, hd, rd⟩
theorem itt_ok {lv : Hp → List V → Prop} {H0 : Hp} {ds : List D} {stay : Sto → Prop} {q : Addr} (hl : ∀ H vs, lv H vs → SqT X.K H q vs) (l : LvOk X lv H0 ds stay) : ItOk X (Itt X.K q) H0 ds stay := fun i H S x sr st => by
  obtain ⟨vs, hv⟩ := l.2 H S x sr st
  have h1 := (l.1 H vs hv).len
  refine ⟨fun h => ⟨vs, hl H vs hv, by omega⟩, fun h => ⟨⟨vs, vs[i]'(by omega), hl H vs hv, List.getElem?_eq_getElem _⟩, fun y H' hy => ?_⟩⟩
  obtain ⟨rfl, hy⟩ := hy
  obtain ⟨d, hd, rd⟩ := (l.1 H' vs hv).getV (hy vs (hl H' vs hv))
  exact ⟨.refl _, fun _ _ q => q, sr, d, hd, rd⟩
theorem its_ok {H0 : Hp} {s : List Nat} {stay : Sto → Prop} : ItOk X (Its (cs s)) H0 (s.map fun c => D.str [c]) stay := fun i H S x sr st => by
  have h1 : (cs s).cps.size = s.length := by simp [cs]
  refine ⟨fun h => ?_, fun h => ⟨?_, fun y H' hy => ?_⟩⟩
  · rw [List.length_map] at h
    show (cs s).cps.size ≤ i
    omega
  · rw [List.length_map] at h
    show i < (cs s).cps.size
    omega
  · obtain ⟨rfl, c, hc, rfl⟩ := hy
    have hc' : s[i]? = some c := by simpa [cs] using hc
    refine ⟨.refl _, fun _ _ q => q, sr, .str [c], ?_, .str [c]⟩
    rw [List.getElem?_map, hc']
    rfl
theorem itr_ok {H0 : Hp} {lo hi : Int} {stay : Sto → Prop} : ItOk X (Itr lo (hi - lo).toNat) H0 (rngL lo hi) stay := fun i H S x sr st => by
  have hl : (rngL lo hi).length = (hi - lo).toNat := by simp [rngL]
  refine ⟨fun h => ?_, fun h => ⟨by rw [hl] at h; exact h, fun y H' hy => ?_⟩⟩
  · show (hi - lo).toNat ≤ i
    omega
  · obtain ⟨rfl, rfl⟩ := hy
    refine ⟨.refl _, fun _ _ q => q, sr, .int (lo + i), ?_, .int _⟩
    rw [hl] at h
    simp [rngL, List.getElem?_map, List.getElem?_range h]
theorem bnd_of {d : D} {xs : List D} {P : Prop} (h : bnd d xs P) (l : (∀ t, d ≠ .str t) → xs.length ≤ Line) : P := by
  cases d <;> first | exact h | exact h (l fun t z => by cases z)
theorem lv_tup {H1 : Hp} {q : Addr} {vs : List V} {xs : List D} {stay : Sto → Prop} (h : SqT X.K H1 q vs) (r : Reps X.K X.mg H1 xs vs) : LvOk X (fun H vs => SqT X.K H q vs ∧ Reps X.K X.mg H xs vs) H1 xs stay :=
  ⟨fun _ _ h => h.2, fun _ _ x _ _ => ⟨vs, sqt_ext x h, r.ext x⟩⟩
theorem lv_fls {H1 : Hp} {q : Addr} {vs : List V} {xs : List D} {stay : Sto → Prop} (h : FrL X.K H1 q vs) (r : Reps X.K X.mg H1 xs vs) : LvOk X (fun H vs => SqL X.K H q vs ∧ Reps X.K X.mg H xs vs) H1 xs stay :=
  ⟨fun _ _ h => h.2, fun _ _ x _ _ => ⟨vs, (frl_ext x h).sq, r.ext x⟩⟩
theorem lv_ref {H1 : Hp} {q : Addr} {xs : List D} {S : Sto} (k : S q = some (.lst xs)) : LvOk X (fun H vs => SqL X.K H q vs ∧ Reps X.K X.mg H xs vs) H1 xs (stays S (.ref q)) :=
  ⟨fun _ _ h => h.2, fun _ S' x sr st => by
    have k2 : S' q = some (.lst xs) := (show S' q = S q from st).trans k
    obtain ⟨ws, h1, q1⟩ := sr q _ k2
    exact ⟨ws, .of h1, q1⟩⟩
/-- for x in a value -/
theorem rule_ival (ha : PE X a (tE G X W (wpE C x))) : PI X tg a (tI G X W (wpI C (.ival x))) := by
  refine ⟨fun pins s σ H R I h => ?_⟩
  obtain ⟨e, S, QI, E', sr, hw, hQ, hE⟩ := h
  refine thn (ha.run pins s σ H (fun v H1 => ∃ d S1, Ext H H1 ∧ Rep X.K X.mg H1 d v ∧ SR G X σ H1 e S1 ∧ ∃ xs, itemsOf S1 d = some xs ∧ bnd d xs (QI xs (stays S1 d) S1)) I
    ⟨e, S, _, E', sr, hw, fun v H1 d S1 x1 r s q => ⟨d, S1, x1, r, s, q⟩, hE⟩) fun u s1 ⟨v, H1, I1, rv, d, S1, x1, r, s, xs, hx, hb⟩ => ?_
  have fin : ∀ J, xs.length ≤ Line → ItOk X J H1 xs (stays S1 d) → R J H1 := fun J l ok => hQ J H1 xs _ S1 x1 s ok (bnd_of hb fun _ => l)
  have ls : ∀ {q vs}, RelV (.ref q) u → SqL X.K H1 q vs → Reps X.K X.mg H1 xs vs → ItOk X (Itl X.K q) H1 xs (stays S1 d) → wpAny (model X.prog X.w) X.A (pyIter u) (PIE X pins σ tg R) X.xe s1 := fun {q vs} rv hs hr ok => by
    cases rv
    obtain ⟨its, r1, p1, hz⟩ := I1.list hs
    exact wpAny_pyIter_list p1.isList (pi_one (tk := s1.toks) I1 _ (turn_list q _) ⟨_, Heap.get?_push_size _ rfl, rfl, rfl⟩ (fin _ (by rw [hr.len, ← line_eq]; exact hz) ok))
  cases d with
  | tup ys =>
    obtain ⟨q, vs, rfl, hs, hr⟩ := rep_tup r
    cases hx
    cases rv
    obtain ⟨its, r1, p1, hz⟩ := I1.tuple hs
    exact wpAny_pyIter_tuple (show s1.heap.IsTuple q its.toArray from p1) (pi_one (tk := s1.toks) I1 _ (turn_tuple q _) ⟨_, Heap.get?_push_size _ rfl, rfl, rfl⟩ (fin _ (by rw [hr.len, ← line_eq]; exact hz) (itt_ok (fun _ _ h => h.1) (lv_tup hs hr))))
  | fls ys =>
    obtain ⟨q, vs, rfl, hs, hr⟩ := rep_fls r
    cases hx
    exact ls rv hs.sq hr (itl_ok (fun _ _ h => h.1) (lv_fls hs hr))
  | ref q =>
    cases rep_ref r
    simp only [itemsOf] at hx
    split at hx
    · rename_i ys k1
      cases hx
      obtain ⟨vs, k2, hr⟩ := sr_lst s k1
      exact ls rv (.of k2) hr (itl_ok (fun _ _ h => h.1) (lv_ref k1))
    · cases hx
  | str t =>
    cases hx
    cases rep_str r
    obtain ⟨tk, rfl⟩ := rv
    have fin' : R (Its (cs t)) H1 := hQ _ H1 _ _ S1 x1 s its_ok hb
    cases ha : (cs t).cps.all (· < 128)
    · exact wpAny_pyIter_wide ha (pi_one (tk := s1.toks) I1 _ (turn_str _ (cs t) tk "str_iterator" (.inr rfl)) ⟨_, Heap.get?_push_size _ rfl, rfl, rfl⟩ fin')
    · exact wpAny_pyIter_ascii ha (pi_one (tk := s1.toks) I1 _ (turn_str _ (cs t) tk "str_ascii_iterator" (.inl rfl)) ⟨_, Heap.get?_push_size _ rfl, rfl, rfl⟩ fin')
  | _ => cases hx
/-- for i, x in enumerate(a value) -/
theorem rule_ienum (c : CxOk G X m n sc N) (h : (gloB sc (os "enumerate") && G.T.blts.contains "enumerate") = true) (hp : plainB a = true) (ha : PE X a (tE G X W (wpE C x))) :
    PI X (.Tuple elts kk tpos) (.Call (.Name (os "enumerate") p) [a] [] pos) (tI G X W (wpI C (.ienum x))) := by
  rw [Bool.and_eq_true] at h
  obtain ⟨u, q1, q2, q3⟩ := c.facts.blt _ h.2
  cases q1
  refine ⟨fun pins s σ H R I h' => ?_⟩
  obtain ⟨e, S, QI, E', sr, hw, hQ, hE⟩ := h'
  refine Call_ (ld_any I (c.gl h.1) q2 (by decide) q3 (PyProof.Rows.callWith_type1 ?_ (star_cons hp [] X.env) rfl))
  refine thn ((pa_cons ha pa_nil (star_cons hp [] X.env)).run pos pins s σ H (fun vs H1 => ∃ v d S1, vs = [v] ∧ Ext H H1 ∧ Rep X.K X.mg H1 d v ∧ SR G X σ H1 e S1 ∧ ∃ xs, itemsOf S1 d = some xs ∧ bnd d xs (QI (enumL 0 xs) (stays S1 d) S1)) I
    ⟨e, S, _, E', sr, hw, fun v H1 d S1 x1 r s q => ⟨v, d, S1, rfl, x1, r, s, q⟩, hE⟩) fun us s1 ⟨vs, H1, I1, rv, v, d, S1, ev, x1, r, s, xs, hx, hb⟩ => ?_
  subst ev
  obtain ⟨u, rfl, ru⟩ := rv.one
  obtain ⟨o, Hc, cs', lv, B, hc, src, c0, l, ln⟩ := src_of I1 s r ru hx
  refine call_enum1 B hc fun h' he ho hk => wpAny_pyIter_enum he ?_
  have I2 : Inv X pins σ H1 { s1 with heap := h' } := I1.kept (t' := s1.toks) hk
  refine ⟨s1.heap.objs.size + 1, [s1.heap.objs.size + 1, s1.heap.objs.size], _, _, H1, rfl, I2, turn_enumS (e := s1.heap.objs.size + 1) (src s1.heap.objs.size), ⟨⟨.none, he⟩, c0 _ _ ho, Nat.succ_ne_self _⟩, fun b hb' => ?_, hQ _ H1 _ _ S1 x1 s (itE_ok l) (bnd_of hb ln)⟩
  have e' : b = s1.heap.objs.size + 1 ∨ b = s1.heap.objs.size := by simpa using hb'
  have hle : s1.heap.objs.size ≤ b := by
    rcases e' with z | z
    · rw [z]; exact Nat.le_add_right _ _
    · rw [z]; exact Nat.le_refl _
  exact I1.fpOk hle (I1.hok.fresh hle)
theorem LvOk.stay {lv : Hp → List V → Prop} {H0 : Hp} {ds : List D} {st st' : Sto → Prop} (l : LvOk X lv H0 ds st) (h : ∀ S, st' S → st S) : LvOk X lv H0 ds st' := ⟨l.1, fun H S x sr q => l.2 H S x sr (h S q)⟩
/-- for x, y in zip(two values) -/
theorem rule_izip (c : CxOk G X m n sc N) (h : (gloB sc (os "zip") && G.T.blts.contains "zip") = true) (hp : ∀ e ∈ [a, b], plainB e = true) (ha : PA X [a, b] (tL G X W 2 (wpL C xs))) :
    PI X (.Tuple elts kk tpos) (.Call (.Name (os "zip") p) [a, b] [] pos) (tI G X W (wpI C (.izip xs))) := by
  rw [Bool.and_eq_true] at h
  obtain ⟨u, q1, q2, q3⟩ := c.facts.blt _ h.2
  cases q1
  refine ⟨fun pins s σ H R I h' => ?_⟩
  obtain ⟨e, S, QI, E', sr, hw, hQ, hE⟩ := h'
  refine Call_ (ld_any I (c.gl h.1) q2 (by decide) q3 (PyProof.Rows.callWith_type1 ?_ (star_cons (hp a (by simp)) [b] X.env) (star_none (es := [b]) (fun e he => hp e (List.mem_cons_of_mem _ he)) pos X.env)))
  refine thn (ha.run pos pins s σ H (fun vs H1 => ∃ ds S1, Ext H H1 ∧ Reps X.K X.mg H1 ds vs ∧ ds.length = 2 ∧ SR G X σ H1 e S1 ∧ ∃ l, allItems S1 ds = some l ∧ (ds.length = 2 ∨ ds.length = 3) ∧ QI (zipL l) (allStay S1 ds) S1) I
    ⟨e, S, _, E', sr, hw, fun vs H1 ds S1 x1 r hl s q => ⟨ds, S1, x1, r, hl, s, q⟩, hE⟩) fun us s1 ⟨vs, H1, I1, rv, ds, S1, x1, r, hl, s, l, hal, _, hq⟩ => ?_
  obtain ⟨d1, d2, rfl⟩ : ∃ d1 d2, ds = [d1, d2] := by
    cases ds with
    | nil => cases hl
    | cons d1 ds =>
      cases ds with
      | nil => cases hl
      | cons d2 ds =>
        cases ds with
        | nil => exact ⟨d1, d2, rfl⟩
        | cons _ _ => cases hl
  obtain ⟨v1, v2, rfl, r1, r2⟩ := reps2 r
  obtain ⟨u1, u2, rfl, ru1, ru2⟩ := rv.two
  simp only [allItems] at hal
  cases h1 : itemsOf S1 d1 with
  | none => rw [h1] at hal; cases hal
  | some xs1 =>
    cases h2 : itemsOf S1 d2 with
    | none => rw [h1, h2] at hal; cases hal
    | some xs2 =>
      rw [h1, h2] at hal
      cases hal
      obtain ⟨o1, Hc1, cs1, lv1, B1, hc1, src1, c01, l1, _⟩ := src_of I1 s r1 ru1 h1
      obtain ⟨o2, Hc2, cs2, lv2, B2, hc2, src2, c02, l2, _⟩ := src_of I1 s r2 ru2 h2
      refine zip_begins2 B1 B2 hc1 hc2 fun h' hz hTI hTO ho1 ho2 hsz hk => wpAny_pyIter_zip hz ?_
      have I2 : Inv X pins σ H1 { s1 with heap := h' } := I1.kept (t' := s1.toks) hk
      generalize hn : s1.heap.objs.size = n0 at *
      refine ⟨n0 + 4, [n0 + 4, n0 + 2, n0 + 3, n0, n0 + 1], _, _, H1, rfl, I2, turn_zipS (src1 n0) (src2 (n0 + 1)) ?_, ⟨hz, hTI, ⟨_, _, hTO⟩, c01 _ _ ho1, c02 _ _ ho2⟩, fun b hb' => ?_,
        hQ _ H1 _ _ S1 x1 s (itZ_ok (l1.stay fun S h => h d1 (by simp)) (l2.stay fun S h => h d2 (by simp))) hq⟩
      · simp only [List.nodup_cons, List.mem_cons, List.not_mem_nil, or_false, not_or, not_false_eq_true, List.nodup_nil, and_true]
        refine ⟨⟨?_, ?_, ?_, ?_⟩, ⟨?_, ?_, ?_⟩, ⟨?_, ?_⟩, ?_⟩ <;> (intro z; have z' : (_ : Nat) = _ := z; omega)
      · have hle : n0 ≤ b := by
          have e' : b = n0 + 4 ∨ b = n0 + 2 ∨ b = n0 + 3 ∨ b = n0 ∨ b = n0 + 1 := by simpa using hb'
          rcases e' with z | z | z | z | z <;> (rw [z]; first | exact Nat.le_add_right _ _ | exact Nat.le_refl _)
        rw [← hn] at hle
        exact I1.fpOk hle (I1.hok.fresh hle)
theorem two_of {ds : List D} (h : ds.length = 2) : ∃ a b, ds = [a, b] := by
  match ds, h with
  | [a, b], _ => exact ⟨a, b, rfl⟩
/-- for i in range(..) -/
theorem rule_irng1 (c : CxOk G X m n sc N) (h : (gloB sc (os "range") && G.T.blts.contains "range") = true) (hp : ∀ e ∈ [a], plainB e = true) (ha : PA X [a] (tL G X W 1 (wpL C xs))) :
    PI X tg (.Call (.Name (os "range") p) [a] [] pos) (tI G X W (wpI C (.irng xs))) := by
  rw [Bool.and_eq_true] at h
  obtain ⟨u, q1, q2, q3⟩ := c.facts.blt _ h.2
  cases q1
  refine ⟨fun pins s σ H R I h' => ?_⟩
  obtain ⟨e, S, QI, E', sr, hw, hQ, hE⟩ := h'
  refine Call_ (ld_any I (c.gl h.1) q2 (by decide) q3 (PyProof.Rows.callWith_type1 ?_ (star_cons (hp a (by simp)) [] X.env) rfl))
  refine thn (ha.run pos pins s σ H (fun vs H1 => ∃ i S1, vs = [.int i] ∧ -(2 ^ 62) ≤ i ∧ i < 2 ^ 62 ∧ Ext H H1 ∧ SR G X σ H1 e S1 ∧ QI (rngL 0 i) (fun _ => True) S1) I
    ⟨e, S, _, E', sr, hw, fun vs H1 ds S1 x1 r hl s q => ?_, hE⟩) fun us s1 ⟨vs, H1, I1, rv, i, S1, ev, k1, k2, x1, s, hq⟩ => ?_
  · match ds, hl with
    | [.int i], _ =>
      obtain ⟨v, rfl, r1⟩ := reps1 r
      cases rep_int r1
      exact ⟨i, S1, rfl, q.1, q.2.1, x1, s, q.2.2⟩
    | [.non], _ => exact (show False from q).elim
    | [.bl _], _ => exact (show False from q).elim
    | [.str _], _ => exact (show False from q).elim
    | [.tup _], _ => exact (show False from q).elim
    | [.fls _], _ => exact (show False from q).elim
    | [.ref _], _ => exact (show False from q).elim
    | [.ty _], _ => exact (show False from q).elim
    | [.fn _], _ => exact (show False from q).elim
  · subst ev
    obtain ⟨u, rfl, ru⟩ := rv.one
    obtain ⟨t, rfl⟩ := ru
    exact call_range_1 (range_it I1 (by omega) (by omega) k1 k2 (hQ _ H1 _ _ S1 x1 s itr_ok hq))
theorem rule_irng2 (c : CxOk G X m n sc N) (h : (gloB sc (os "range") && G.T.blts.contains "range") = true) (hp : ∀ e ∈ [a, b], plainB e = true) (ha : PA X [a, b] (tL G X W 2 (wpL C xs))) :
    PI X tg (.Call (.Name (os "range") p) [a, b] [] pos) (tI G X W (wpI C (.irng xs))) := by
  rw [Bool.and_eq_true] at h
  obtain ⟨u, q1, q2, q3⟩ := c.facts.blt _ h.2
  cases q1
  refine ⟨fun pins s σ H R I h' => ?_⟩
  obtain ⟨e, S, QI, E', sr, hw, hQ, hE⟩ := h'
  refine Call_ (ld_any I (c.gl h.1) q2 (by decide) q3 (PyProof.Rows.callWith_type1 ?_ (star_cons (hp a (by simp)) [b] X.env) (star_none (es := [b]) (fun e he => hp e (List.mem_cons_of_mem _ he)) pos X.env)))
  refine thn (ha.run pos pins s σ H (fun vs H1 => ∃ i j S1, vs = [.int i, .int j] ∧ -(2 ^ 62) ≤ i ∧ i < 2 ^ 62 ∧ -(2 ^ 62) ≤ j ∧ j < 2 ^ 62 ∧ Ext H H1 ∧ SR G X σ H1 e S1 ∧ QI (rngL i j) (fun _ => True) S1) I
    ⟨e, S, _, E', sr, hw, fun vs H1 ds S1 x1 r hl s q => ?_, hE⟩) fun us s1 ⟨vs, H1, I1, rv, i, j, S1, ev, k1, k2, k3, k4, x1, s, hq⟩ => ?_
  · obtain ⟨d1, d2, rfl⟩ := two_of hl
    obtain ⟨v, w, rfl, r1, r2⟩ := reps2 r
    cases d1 <;> first | (exact (show False from q).elim) | skip
    cases d2 <;> first | (exact (show False from q).elim) | skip
    cases rep_int r1
    cases rep_int r2
    exact ⟨_, _, S1, rfl, q.1, q.2.1, q.2.2.1, q.2.2.2.1, x1, s, q.2.2.2.2⟩
  · subst ev
    obtain ⟨u1, u2, rfl, ru1, ru2⟩ := rv.two
    obtain ⟨t, rfl⟩ := ru1
    obtain ⟨t', rfl⟩ := ru2
    exact call_range_2 (range_it I1 k1 k2 k3 k4 (hQ _ H1 _ _ S1 x1 s itr_ok hq))
end
end PS
set_option maxHeartbeats 2000000
/-! PS, part 16: targets; comprehensions. -/
namespace PS
open PySem PySem.Spec PyProof.Rows L2 PD
section
variable {G : GT} {X : Cx} {W : WX} {m : Md} {n : Nat} {sc : Scope} {N : List String} {C : CallT}
theorem SR.put {σ : L2.St} {H : Hp} {e : PD.Env} {S : Sto} (sr : SR G X σ H e S) (hl : σ.length = X.N.length) (i : Nat) {d : D} {v : V} (r : Rep X.K X.mg H d v) : SR G X (σ.set i (some v)) H (e.set i (some (.d d))) S where
  ext := sr.ext
  exx := sr.exx
  tab := sr.tab
  len := by rw [List.length_set]; exact sr.len
  sl := by rw [List.length_set]; exact sr.sl
  env := fun j a q => by
    by_cases h : i = j
    · subst h
      by_cases hi : i < e.length
      · rw [List.getElem?_set_self hi] at q
        cases q
        rw [List.getElem?_set_self (by rw [hl, ← sr.len]; exact hi)]
        exact ⟨v, rfl, r⟩
      · rw [List.getElem?_eq_none (by rw [List.length_set]; omega)] at q
        cases q
    · rw [List.getElem?_set_ne h] at q
      rw [List.getElem?_set_ne h]
      exact sr.env j a q
  sto := sr.sto
  dat := fun hc j a q => by
    by_cases h : i = j
    · subst h
      by_cases hi : i < e.length
      · rw [List.getElem?_set_self hi] at q
        cases q
        exact ⟨d, rfl⟩
      · rw [List.getElem?_eq_none (by rw [List.length_set]; omega)] at q
        cases q
    · rw [List.getElem?_set_ne h] at q
      exact sr.dat hc j a q
/-- all other slots stay -/
def Wipes (ix : List Nat) (σ σ' : L2.St) : Prop := ∀ vs : List Nat, (∀ i ∈ ix, i ∈ vs) → L2.wipe σ' vs = L2.wipe σ vs
theorem wipe_set {i : Nat} {x : Option V} : ∀ {vs : List Nat} {σ : L2.St}, i ∈ vs → L2.wipe (σ.set i x) vs = L2.wipe σ vs
  | v :: vs, σ, h => by
    have comm : ∀ (vs : List Nat) (σ : L2.St), L2.wipe (σ.set i x) vs = (L2.wipe σ vs).set i x ∨ L2.wipe (σ.set i x) vs = L2.wipe σ vs := fun vs => by
      induction vs with
      | nil => exact fun σ => .inl rfl
      | cons u us ih =>
        intro σ
        show (L2.wipe (σ.set i x) us).set u none = ((L2.wipe σ us).set u none).set i x ∨ (L2.wipe (σ.set i x) us).set u none = (L2.wipe σ us).set u none
        rcases ih σ with e | e
        · rw [e]
          by_cases hu : u = i
          · subst hu
            exact .inr (by rw [List.set_set])
          · exact .inl (List.set_comm _ _ (Ne.symm hu))
        · exact .inr (by rw [e])
    show (L2.wipe (σ.set i x) vs).set v none = (L2.wipe σ vs).set v none
    by_cases hv : v = i
    · subst hv
      rcases comm vs σ with e | e
      · rw [e, List.set_set]
      · rw [e]
    · rcases List.mem_cons.mp h with z | z
      · exact absurd z.symm hv
      · rw [wipe_set z]
/-- THE READING of a target -/
def gT (G : GT) (X : Cx) (t : Tg) : TG := fun v σ H Q => ∃ e S d K, SR G X σ H e S ∧ Rep X.K X.mg H d v ∧ tgW S t d e K ∧ ∀ σ' e', Wipes (tgIx t) σ σ' → SR G X σ' H e' S → K e' → Q σ' H
def gTs (G : GT) (X : Cx) (ts : List Tg) : TGs := fun vs σ H Q => ∃ e S ds K, SR G X σ H e S ∧ Reps X.K X.mg H ds vs ∧ tgsW S ts ds e K ∧ ∀ σ' e', Wipes (tgIxs ts) σ σ' → SR G X σ' H e' S → K e' → Q σ' H
mutual
theorem tg_end {S : Sto} : ∀ (t : Tg) (d : D) (e : PD.Env) (K : PD.Env → Prop), tgW S t d e K → ∃ e', K e'
  | .n i, d, e, K, h => ⟨_, h.2⟩
  | .t ts, d, e, K, h => let ⟨xs, _, h⟩ := h; (tgs_end ts xs e K h).2
theorem tgs_end {S : Sto} : ∀ (ts : List Tg) (xs : List D) (e : PD.Env) (K : PD.Env → Prop), tgsW S ts xs e K → xs.length = ts.length ∧ ∃ e', K e'
  | [], xs, e, K, h => by
    obtain ⟨rfl, h⟩ := h
    exact ⟨rfl, e, h⟩
  | t :: ts, xs, e, K, h => by
    obtain ⟨d, r, rfl, h⟩ := h
    obtain ⟨e1, h1⟩ := tg_end t d e _ h
    obtain ⟨h2, h3⟩ := tgs_end ts r e1 K h1
    exact ⟨congrArg (· + 1) h2, h3⟩
end
/-- a scope's own names are to be written -/
def Own (X : Cx) (sc : Scope) : Prop := ∀ x, locB sc x = true → Loc X.env.scope x ∧ (X.fn x = true ∨ X.env.scope.names.lookup x = some .local)
theorem at_ok {N : List String} {i : Nat} {x : Str} (hN : X.N = N.map os) (h : atB N i x = true) : X.N[i]? = some x := by
  unfold atB at h
  split at h
  · rename_i y hy
    rw [hN, List.getElem?_map, hy]
    exact congrArg some (eq_of_beq h)
  · cases h
mutual
theorem rule_tg (hN : X.N = N.map os) (hd : X.N.Nodup) (hc : X.calm = true) (ow : Own X sc) : ∀ (t : Tg) (x : Expr), chkT sc N t x = true → PG X x (gT G X t)
  | .n i, x, h => by
    cases x with
    | Name x p =>
      have h' : (atB N i x && locB sc x) = true := h
      rw [Bool.and_eq_true] at h'
      obtain ⟨h1, h2⟩ := h'
      obtain ⟨l, f⟩ := ow x h2
      have base := pg_name (pos := p) hd (at_ok hN h1) l f
      refine ⟨fun pins s σ H v u Q I r ⟨e, S, d, K, sr, rd, hw, hQ⟩ => base.run pins s σ H v u Q I r ?_⟩
      exact hQ _ _ (fun vs hv => wipe_set (hv i (by simp [tgIx]))) (sr.put I.len i rd) hw.2
    | _ => exact (Bool.false_ne_true h).elim
  | .t ts, x, h => by
    cases x with
    | Tuple es k p =>
      have h' : chkTs sc N ts es = true := h
      have hs := rule_tgs hN hd hc ow ts es h'
      have cnt : ∀ (ts : List Tg) (es : List Expr), chkTs sc N ts es = true → (assignEach es X.env).length = ts.length ∧ (assignEach es X.env).findIdx? (·.1) = none := fun ts => by
        induction ts with
        | nil => intro es h; cases es with
          | nil => exact ⟨rfl, rfl⟩
          | cons _ _ => exact (Bool.false_ne_true h).elim
        | cons t ts ih => intro es h; cases es with
          | nil => exact (Bool.false_ne_true h).elim
          | cons e es =>
            have h' : (plainB e && chkT sc N t e && chkTs sc N ts es) = true := h
            simp only [Bool.and_eq_true] at h'
            obtain ⟨i1, i2⟩ := ih es h'.2
            have he : assignEach (e :: es) X.env = (false, assign e X.env) :: assignEach es X.env := by
              have := h'.1.1
              cases e <;> first | rfl | cases this
            rw [he]
            refine ⟨congrArg (· + 1) i1, ?_⟩
            rw [List.findIdx?_cons, i2]
            rfl
      obtain ⟨c1, c2⟩ := cnt ts es h'
      have base := pg_tup (k := k) (pos := p) hc hs c1 c2
      have base2 := pg_unl (k := k) (pos := p) hc hs c1 c2
      refine ⟨fun pins s σ H v u Q I r ⟨e, S, d, K, sr, rd, hw, hQ⟩ => ?_⟩
      obtain ⟨xs, rfl | ⟨a, rfl, hS⟩, hw⟩ := hw
      · refine base.run pins s σ H v u Q I r ?_
        obtain ⟨a, vs, rfl, hq, rs⟩ := rep_tup rd
        refine ⟨a, vs, rfl, hq, ?_, e, S, xs, K, sr, rs, hw, hQ⟩
        rw [← rs.len]
        exact (tgs_end ts xs e K hw).1
      · refine base2.run pins s σ H v u Q I r ?_
        cases rep_ref rd
        obtain ⟨vs, hq, rs⟩ := sr_lst sr hS
        refine ⟨a, vs, rfl, .of hq, ?_, e, S, xs, K, sr, rs, hw, hQ⟩
        rw [← rs.len]
        exact (tgs_end ts xs e K hw).1
    | _ => exact (Bool.false_ne_true h).elim
theorem rule_tgs (hN : X.N = N.map os) (hd : X.N.Nodup) (hc : X.calm = true) (ow : Own X sc) : ∀ (ts : List Tg) (xs : List Expr), chkTs sc N ts xs = true → PGs X xs (gTs G X ts)
  | [], xs, h => by
    cases xs with
    | nil =>
      refine ⟨fun pins s σ H vs us Q I r ⟨e, S, ds, K, sr, rd, hw, hQ⟩ => pgs_nil.run pins s σ H vs us Q I r ?_⟩
      obtain ⟨rfl, hk⟩ := hw
      cases rd
      exact ⟨rfl, hQ σ e (fun _ _ => rfl) sr hk⟩
    | cons _ _ => exact (Bool.false_ne_true h).elim
  | t :: ts, xs, h => by
    cases xs with
    | nil => exact (Bool.false_ne_true h).elim
    | cons x xs =>
      have h' : (plainB x && chkT sc N t x && chkTs sc N ts xs) = true := h
      simp only [Bool.and_eq_true] at h'
      have he : (assignEach (x :: xs) X.env).map (·.2) = assign x X.env :: (assignEach xs X.env).map (·.2) := by
        have := h'.1.1
        cases x <;> first | rfl | cases this
      have base := pgs_cons (rule_tg hN hd hc ow t x h'.1.2) (rule_tgs hN hd hc ow ts xs h'.2) he
      refine ⟨fun pins s σ H vs us Q I r ⟨e, S, ds, K, sr, rd, hw, hQ⟩ => base.run pins s σ H vs us Q I r ?_⟩
      obtain ⟨d, dr, rfl, hw⟩ := hw
      cases rd with
      | cons r1 rr =>
        refine ⟨_, _, rfl, e, S, d, _, sr, r1, hw, fun σ1 e1 w1 s1 hk => ⟨e1, S, dr, K, s1, rr, hk, fun σ2 e2 w2 s2 hk2 => hQ σ2 e2 (fun vs hv => ?_) s2 hk2⟩⟩
        rw [w2 vs fun i hi => hv i (by show i ∈ tgIx t ++ tgIxs ts; exact List.mem_append_right _ hi), w1 vs fun i hi => hv i (by show i ∈ tgIx t ++ tgIxs ts; exact List.mem_append_left _ hi)]
end
end
end PS
set_option maxHeartbeats 2000000
/-! PS, part 17: comprehensions. -/
namespace PS
open PySem PySem.Spec PyProof.Rows L2 PD
section
variable {G : GT} {X X' : Cx} {W : WX} {m : Md} {n : Nat} {sc : Scope} {N : List String} {C : CallT}
/-- within a comprehension: plain values alone -/
abbrev GT.in (G : GT) : GT := { G with clo := false }
theorem SR.swap {σ : L2.St} {H : Hp} {e : PD.Env} {S : Sto} (hK : X'.K = X.K) (hm : X'.mg = X.mg) (hN : X'.N = X.N) (hc : G.clo = false) (sr : SR G X σ H e S) : SR G X' σ H e S where
  ext := sr.ext
  exx := sr.exx
  tab := sr.tab
  len := by rw [hN]; exact sr.len
  sl := by rw [hN]; exact sr.sl
  env := fun i a q => by
    obtain ⟨d, rfl⟩ := sr.dat hc i a q
    obtain ⟨v, h1, h2⟩ := sr.env i _ q
    refine ⟨v, h1, ?_⟩
    show Rep X'.K X'.mg H d v
    rw [hK, hm]
    exact h2
  sto := by rw [hK, hm]; exact sr.sto
  dat := sr.dat
theorem wipe_get (σ : L2.St) : ∀ (vs : List Nat) (j : Nat), j ∉ vs → (L2.wipe σ vs)[j]? = σ[j]?
  | [], _, _ => rfl
  | v :: vs, j, h => by
    show ((L2.wipe σ vs).set v none)[j]? = _
    rw [List.getElem?_set_ne fun z => h (by simp [z]), wipe_get σ vs j fun z => h (List.mem_cons_of_mem _ z)]
theorem wipe_at (σ : L2.St) : ∀ (vs : List Nat) (j : Nat), j ∈ vs → (L2.wipe σ vs)[j]? = (σ[j]?).map fun _ => none
  | v :: vs, j, h => by
    show ((L2.wipe σ vs).set v none)[j]? = _
    by_cases hv : v = j
    · subst hv
      rw [List.getElem?_set]
      simp only [if_true]
      have hl := L2.wipe_length σ vs
      by_cases h2 : v < σ.length
      · rw [if_pos (by rw [hl]; exact h2), List.getElem?_eq_getElem h2]
        rfl
      · rw [if_neg (by rw [hl]; exact h2), List.getElem?_eq_none (by omega)]
        rfl
    · rw [List.getElem?_set_ne hv]
      exact wipe_at σ vs j ((List.mem_cons.mp h).resolve_left fun z => hv z.symm)
theorem wipe_wipe (σ : L2.St) (vs : List Nat) : L2.wipe (L2.wipe σ vs) vs = L2.wipe σ vs := by
  apply List.ext_getElem?
  intro j
  by_cases h : j ∈ vs
  · rw [wipe_at _ vs j h, wipe_at _ vs j h]
    cases σ[j]? <;> rfl
  · rw [wipe_get _ vs j h]
theorem dwipe_len (e : PD.Env) : ∀ vs : List Nat, (PD.wipe e vs).length = e.length
  | [] => rfl
  | v :: vs => by
    show ((PD.wipe e vs).set v none).length = _
    rw [List.length_set, dwipe_len e vs]
theorem dwipe_some {e : PD.Env} {a : AV} : ∀ {vs : List Nat} {j : Nat}, (PD.wipe e vs)[j]? = some (some a) → e[j]? = some (some a) ∧ j ∉ vs
  | [], _, h => ⟨h, by simp⟩
  | v :: vs, j, h => by
    have h : ((PD.wipe e vs).set v none)[j]? = some (some a) := h
    by_cases hv : v = j
    · subst hv
      by_cases hl : v < (PD.wipe e vs).length
      · rw [List.getElem?_set_self hl] at h
        cases h
      · rw [List.getElem?_eq_none (by rw [List.length_set]; omega)] at h
        cases h
    · rw [List.getElem?_set_ne hv] at h
      obtain ⟨h1, h2⟩ := dwipe_some h
      exact ⟨h1, by simp only [List.mem_cons, not_or]; exact ⟨fun z => hv z.symm, h2⟩⟩
/-- the slots within the block -/
theorem SR.block {σ : L2.St} {H : Hp} {e : PD.Env} {S : Sto} (sr : SR G X σ H e S) (own : List Nat) : SR G.in X (L2.wipe σ own) H (datE (PD.wipe e own)) S where
  ext := sr.ext
  exx := sr.exx
  tab := sr.tab
  len := by
    unfold datE
    rw [List.length_map, dwipe_len]
    exact sr.len
  sl := by
    rw [L2.wipe_length]
    exact sr.sl
  env := fun i a q => by
    unfold datE at q
    rw [List.getElem?_map] at q
    cases h : (PD.wipe e own)[i]? with
    | none => rw [h] at q; cases q
    | some o =>
      rw [h] at q
      cases o with
      | none => cases q
      | some b =>
        cases b with
        | d x =>
          cases q
          obtain ⟨h1, h2⟩ := dwipe_some h
          obtain ⟨v, h3, h4⟩ := sr.env i _ h1
          exact ⟨v, by rw [wipe_get _ own i h2]; exact h3, h4⟩
        | _ => cases q
  sto := sr.sto
  dat := fun _ i a q => by
    unfold datE at q
    rw [List.getElem?_map] at q
    cases h : (PD.wipe e own)[i]? with
    | none => rw [h] at q; cases q
    | some o =>
      rw [h] at q
      cases o with
      | none => cases q
      | some b =>
        cases b with
        | d x => cases q; exact ⟨x, rfl⟩
        | _ => cases q
abbrev W0 : WX := fun _ _ _ _ => False
variable {elt iter tg : Expr} {ifs : List Expr} {scope : Scope} {pos : Pos} {x it : Ex} {xs : List Ex} {t : Tg} {own : List Nat}
/-- the block's tests -/
def tIfs (G : GT) (X : Cx) (C : CallT) : List Ex → TT
  | [] => tYes
  | [x] => tT G X W0 (wpE C x)
  | _ => fun _ _ _ => False
theorem lc_rd {σ : L2.St} {H : Hp} {Q : VK} (hx : xs.length ≤ 1) (ht : ∀ i ∈ tgIx t, i ∈ own) (h : tE G X W (wpE C (.comp x t it xs own)) σ H Q) :
    tLc (tI G X W (wpI C it)) (gT G.in X t) (tIfs G.in X C xs) (tE G.in X W0 (wpE C x)) own σ H Q := by
  obtain ⟨e, S, Q', E', sr, hw, hQ, hE⟩ := h
  refine ⟨e, S, _, E', sr, hw, fun J H1 ds stay S1 x1 s1 ok hq D hD => ?_, hE⟩
  obtain ⟨hlen, hcomp⟩ := hq
  obtain ⟨Wp, w0, hstep⟩ := hcomp D (s1.sto.fresh hD)
  refine ⟨fun i k Hc => i ≤ ds.length ∧ k = ds.length - i ∧ ∃ acc Sc, acc.length ≤ i ∧ Ext H1 Hc ∧ SR G X σ Hc e Sc ∧ Wp i acc Sc, ⟨_, Nat.zero_le _, rfl, [], _, Nat.le_refl _, .new hD, s1.newl hD .nil, w0⟩, ?_⟩
  rintro i k Hc ⟨hi, rfl, acc, Sc, hacc, xc, sc, wi⟩
  obtain ⟨hD', hstay, hturn, hfin⟩ := hstep i acc Sc wi
  obtain ⟨okStop, okGo⟩ := ok i Hc Sc xc sc.sto hstay
  by_cases hlt : i < ds.length
  · obtain ⟨go, gy⟩ := okGo hlt
    refine .inr ⟨go, fun H' => ∃ acc' S', acc'.length ≤ i + 1 ∧ Ext H1 H' ∧ SR G X σ H' e S' ∧ Wp (i + 1) acc' S', fun H' ⟨acc', S', h1, h2, h3, h4⟩ => ⟨ds.length - (i + 1), by omega, hlt, rfl, acc', S', h1, h2, h3, h4⟩, fun y H' hy => ?_⟩
    obtain ⟨xy, ty, sy, d, hd, rd⟩ := gy y H' hy
    have sc' : SR G X σ H' e Sc := sc.to xy (tabs_keep sc.tab xy ty) sy
    refine ⟨_, Sc, d, _, sc'.block own, rd, hturn d hd, fun σ2 e2 w2 s2 hk => ⟨by rw [w2 own ht, wipe_wipe], ?_⟩⟩
    have te : ∀ H3 S3, Ext H' H3 → SR G.in X σ2 H3 e2 S3 → wpE C x e2 S3 (fun y S4 => S4 D = some (.lst acc) ∧ Wp (i + 1) (acc ++ [y]) (sup S4 D (.lst (acc ++ [y])))) noX →
        tE G.in X W0 (wpE C x) σ2 H3 fun y H4 => ∃ acc, H4 D = some (.lst acc) ∧ acc.length < sizeLine ∧ ∃ acc' S', acc'.length ≤ i + 1 ∧ Ext H1 (upd H4 D (.lst (acc ++ [y]))) ∧ SR G X σ (upd H4 D (.lst (acc ++ [y]))) e S' ∧ Wp (i + 1) acc' S' :=
      fun H3 S3 x3 s3 hw3 => ⟨e2, S3, _, noX, s3, hw3, fun y4 H4 d4 S4 x4 r4 s4 ⟨hD4, hW4⟩ => by
        obtain ⟨vs4, k4, rp4⟩ := s4.sto D _ hD4
        have xp : Ext H4 (upd H4 D (.lst (vs4 ++ [y4]))) := .put k4 rfl
        have tp : TExt H4 (upd H4 D (.lst (vs4 ++ [y4]))) := .put k4 fun _ z => by cases z
        have xall : Ext Hc (upd H4 D (.lst (vs4 ++ [y4]))) := ((xy.trans x3).trans x4).trans xp
        refine ⟨vs4, k4, ?_, acc ++ [d4], _, by rw [List.length_append, List.length_singleton]; omega, xc.trans xall, ?_, hW4⟩
        · rw [← rp4.len, line_eq]
          exact Nat.lt_of_lt_of_le (Nat.lt_of_le_of_lt hacc hlt) hlen
        · exact sc.to xall (tabs_keep s4.tab xp tp) (s4.sto.setl k4 (rp4.app (.cons r4 .nil))), fun _ _ _ _ _ _ _ _ z => z.elim⟩
    have nx : ∀ H3 S3, Ext H' H3 → SR G.in X σ2 H3 e2 S3 → Wp (i + 1) acc S3 → ∃ acc' S', acc'.length ≤ i + 1 ∧ Ext H1 H3 ∧ SR G X σ H3 e S' ∧ Wp (i + 1) acc' S' := fun H3 S3 x3 s3 w3 =>
      ⟨acc, S3, Nat.le_succ_of_le hacc, (xc.trans xy).trans x3, sc.to (xy.trans x3) s3.tab s3.sto, w3⟩
    match xs, hx, hk with
    | [], _, hk =>
      obtain ⟨k, hk1, hk2⟩ := hk
      cases hk1
      exact te H' Sc (.refl _) s2 hk2
    | [tx], _, hk =>
      refine ⟨e2, Sc, _, noX, s2, hk, fun H3 d3 S3 x3 s3 ⟨k, hk1, hk2⟩ => ⟨k, hk1, ?_⟩, fun _ _ _ _ _ _ _ _ z => z.elim⟩
      cases k with
      | true => exact te H3 S3 x3 s3 hk2
      | false => exact nx H3 S3 x3 s3 hk2
    | _ :: _ :: _, hx, hk => exact absurd hx (by simp)
  · have e1 : i = ds.length := by omega
    exact .inl ⟨okStop e1, hQ (.ref D) Hc (.ref D) Sc (x1.trans xc) (.ref D) sc (hfin e1)⟩
end
end PS
set_option maxHeartbeats 2000000
/-! PS, part 18: a caught error's field; the rule of a comprehension. -/
namespace PS
open PySem PySem.Spec PyProof.Rows L2 PD
theorem os_inj {a b : String} (h : os a = os b) : a = b := by
  unfold os at h
  rw [Str.ofString_eq_toList, Str.ofString_eq_toList] at h
  have h1 : a.toList.map Char.toNat = b.toList.map Char.toNat := by
    have := congrArg Str.cps h
    simpa using this
  have h2 : ∀ l k : List Char, l.map Char.toNat = k.map Char.toNat → l = k := fun l => by
    induction l with
    | nil => intro k h; cases k with
      | nil => rfl
      | cons _ _ => simp at h
    | cons c l ih => intro k h; cases k with
      | nil => simp at h
      | cons d k =>
        simp only [List.map_cons, List.cons.injEq] at h
        rw [ih k h.2, Char.toNat_inj.mp h.1]
  exact String.toList_inj.mp (h2 _ _ h1)
section
variable {G : GT} {X : Cx} {W : WX} {m : Md} {n : Nat} {sc : Scope} {N : List String} {C : CallT}
theorem RepFs.look {K : PySem.W.Frag} {mg : Str → Option Value} {H : Hp} {fs : List (String × D)} {gs : List (Str × V)} (h : RepFs K mg H fs gs) {f : String} {d : D} (e : fs.lookup f = some d) : ∃ v, gs.lookup (os f) = some v ∧ Rep K mg H d v := by
  induction h with
  | nil => cases e
  | @cons g x v fs gs hx t ih =>
    rw [List.lookup_cons] at e ⊢
    by_cases q : f = g
    · subst q
      simp only [beq_self_eq_true] at e ⊢
      cases e
      exact ⟨v, rfl, hx⟩
    · rw [show (f == g) = false from beq_eq_false_iff_ne.mpr q] at e
      rw [show (os f == Str.ofString g) = false from beq_eq_false_iff_ne.mpr fun z => q (os_inj z)]
      exact ih e
theorem rule_efld (c : CxOk G X m n sc N) {i : Nat} {f : String} {x : Str} {p p' : Pos} (h : (atB N i x && visB sc x && dbgB x) = true) : PE X (.Attribute (.Name x p) (os f) p') (tE G X W (wpE C (.efld i f))) := by
  simp only [Bool.and_eq_true] at h
  obtain ⟨⟨h1, h2⟩, h3⟩ := h
  have hv := pe_var (pos := p) (c.at h1) (c.vis h2) (dbgB_ok h3).1 (dbgB_ok h3).2
  refine ⟨fun pins s σ H Q I ⟨e, S, Q', E', sr, hw, hQ, _⟩ => ?_⟩
  obtain ⟨y, fs, d, k1, k2, q⟩ := hw
  obtain ⟨v, k3, k4⟩ := sr.env i _ k1
  have k4 : ExcAt X H y fs v := k4
  rcases k4 with k4 | ⟨a, K, dd, gs, oe, rfl, h4, h5, h6, h7, h8, h9, h10, h11⟩
  · rw [k4] at k2
    cases k2
  obtain ⟨w, k5, k6⟩ := h10.look k2
  obtain ⟨T, hno⟩ := h11 f d k2
  refine attr_of rfl (thn (hv.run pins s σ H (fun v' H1 => v' = .ref a ∧ H1 = H) I ⟨_, k3, rfl, rfl⟩) fun u s1 hh => ?_)
  obtain ⟨x', H1, I1, rx, ex, eH⟩ := hh
  subst ex
  subst eH
  obtain rfl : u = Value.ref a := rx
  obtain ⟨ha, _⟩ := I1.pin (a, oe) (List.mem_append_left _ h5)
  obtain ⟨vs, hd⟩ := h7
  have hx : ObjOk X.prog X.w H1 s1.heap dd (.xd gs) := I1.hok dd _ h9
  obtain ⟨mA, hns, hr⟩ := hx
  obtain ⟨od, ho, hl⟩ := lookIn_ns hns
  obtain ⟨u, hu, ru⟩ := RelO.some_of (v := w) (o := mA (os f)) (by rw [← k5]; exact hr (os f))
  have J : PySem.W.InstAt s1.heap a oe K (some od) := ⟨ha, h6.1, by unfold PySem.W.notCls; rw [hd] <;> rfl, by rw [h6.2]; exact ho⟩
  exact HandSPX.exc_get I1.kIn J T.ga T.gg T.exC (PySem.W.findObj_own T.hdC hno rfl (by rw [hl, hu])) (handed_of ru) ⟨w, H1, I1.tok _, ru, hQ w H1 d S (.refl _) k6 sr q⟩
variable {elt iter tg : Expr} {ifs : List Expr} {scope : Scope} {pos : Pos} {x it : Ex} {xs : List Ex} {t : Tg} {own : List Nat}
/-- the block's context -/
theorem CxOk.blk (c : CxOk G X m n sc N) (hk : scope.kind = .function) (s : Shared) (H : Hp) (A : Addr) (cl : List (Str × Addr)) (fp : List Addr) : CxOk G.in (X.blk s H scope (compEnvC scope cl A X.env) fp) ⟨m.cm, false⟩ n (relS scope sc) N where
  sc := by
    rw [← c.sc]
    rfl
  kind := hk
  nm := c.nm
  nd := c.nd
  calm := c.calm
  un := c.un
  link := fun z => by cases z
  facts := c.facts
  lam := fun z => by cases z
theorem own_blk (c : CxOk G X m n sc N) (s : Shared) (H : Hp) (A : Addr) (cl : List (Str × Addr)) (fp : List Addr) : Own (X.blk s H scope (compEnvC scope cl A X.env) fp) scope := fun x h => by
  have keep : ∀ k, k ≠ .free → scope.names.lookup x = some k → (relS scope X.env.scope).names.lookup x = some k := fun k hk h => lookup_relS_keep hk h
  unfold locB at h
  split at h <;> rename_i e
  · exact ⟨.inl (keep _ (by decide) e), .inr (keep _ (by decide) e)⟩
  · refine ⟨.inr (keep _ (by decide) e), .inl ?_⟩
    show (scope.names.lookup x == some NameKind.cell) = true
    rw [e]
    rfl
  · cases h
theorem comp_parts (c : CxOk G X m n sc N) (hcm : m.cm = true) (hb : blkC (N.map os) sc scope (own.map fun k => ((N.map os).getD k Str.empty, k)) = true) (hx : xs.length ≤ 1) (hin : ∀ i ∈ tgIx t, i ∈ own) (hi : PI X tg iter (tI G X W (wpI C it))) (htg : chkT scope N t tg = true)
    (hs : ∀ x, foldedSetIterable iter X.env x = pure x)
    (hifs : ∀ X', CxOk G.in X' ⟨m.cm, false⟩ n (relS scope sc) N → X'.prog = X.prog → X'.w = X.w → X'.K = X.K → X'.mg = X.mg → X'.base = X.base → PTs X' ifs (tIfs G.in X' C xs))
    (he : ∀ X', CxOk G.in X' ⟨m.cm, false⟩ n (relS scope sc) N → X'.prog = X.prog → X'.w = X.w → X'.K = X.K → X'.mg = X.mg → X'.base = X.base → PE X' elt (tE G.in X' W0 (wpE C x))) :
    BlkOk X.N X.env.scope scope (own.map fun k => ((N.map os).getD k Str.empty, k)) ∧
      (∀ (s : Shared) (H : Hp) (A : Addr) (cl : List (Str × Addr)) (fp : List Addr), PG (X.blk s H scope (compEnvC scope cl A X.env) fp) tg (gT G.in X t)) ∧
      (∀ (s : Shared) (H : Hp) (A : Addr) (cl : List (Str × Addr)) (fp : List Addr), PTs (X.blk s H scope (compEnvC scope cl A X.env) fp) ifs (tIfs G.in X C xs)) ∧
      (∀ (s : Shared) (H : Hp) (A : Addr) (cl : List (Str × Addr)) (fp : List Addr), PE (X.blk s H scope (compEnvC scope cl A X.env) fp) elt (tE G.in X W0 (wpE C x))) := by
  have ok : BlkOk X.N X.env.scope scope (own.map fun k => ((N.map os).getD k Str.empty, k)) := by
    rw [c.nm, c.sc]
    exact blkOk_by hb
  have tb : ∀ (s : Shared) (H : Hp) (A : Addr) (cl : List (Str × Addr)) (fp : List Addr) {σ : L2.St} {H' : Hp} {e : PD.Env} {S : Sto}, SR G.in X σ H' e S → SR G.in (X.blk s H scope (compEnvC scope cl A X.env) fp) σ H' e S :=
    fun s H A cl fp {σ H' e S} sr => SR.swap (X := X) (X' := X.blk s H scope (compEnvC scope cl A X.env) fp) rfl rfl rfl rfl sr
  have fb : ∀ (s : Shared) (H : Hp) (A : Addr) (cl : List (Str × Addr)) (fp : List Addr) {σ : L2.St} {H' : Hp} {e : PD.Env} {S : Sto}, SR G.in (X.blk s H scope (compEnvC scope cl A X.env) fp) σ H' e S → SR G.in X σ H' e S :=
    fun s H A cl fp {σ H' e S} sr => SR.swap (X := X.blk s H scope (compEnvC scope cl A X.env) fp) (X' := X) rfl rfl rfl rfl sr
  exact ⟨ok,
    (fun s H A cl fp => ⟨fun pins s' σ H' v u Q I r ⟨e, S, d, K, sr, rd, hw, hQ⟩ => (rule_tg (G := G.in) (X := X.blk s H scope (compEnvC scope cl A X.env) fp) c.nm c.nd (c.calm hcm).1 (own_blk c s H A cl fp) t tg htg).run pins s' σ H' v u Q I r
      ⟨e, S, d, K, tb s H A cl fp sr, rd, hw, fun σ' e' w s1 k => hQ σ' e' w (fb s H A cl fp s1) k⟩⟩),
    (fun s H A cl fp => ⟨fun pins s' σ H' Q I q => (hifs _ (c.blk ok.kind s H A cl fp) rfl rfl rfl rfl rfl).run pins s' σ H' Q I (by
      match xs, hx, q with
      | [], _, q => exact q
      | [tx], _, ⟨e, S, Q', E', sr, hw, hQ, hE⟩ => exact ⟨e, S, Q', E', tb s H A cl fp sr, hw, fun H' d S' x1 s1 q1 => hQ H' d S' x1 (fb s H A cl fp s1) q1, fun x fs S' cls d H' s1 xr ex => hE x fs S' cls d H' (fb s H A cl fp s1) xr ex⟩
      | _ :: _ :: _, hx, _ => exact absurd hx (by simp))⟩),
    (fun s H A cl fp => ⟨fun pins s' σ H' Q I ⟨e, S, Q', E', sr, hw, hQ, hE⟩ => (he _ (c.blk ok.kind s H A cl fp) rfl rfl rfl rfl rfl).run pins s' σ H' Q I
      ⟨e, S, Q', E', tb s H A cl fp sr, hw, fun v H' d S' x1 r s1 q1 => hQ v H' d S' x1 r (fb s H A cl fp s1) q1, fun x fs S' cls d H' s1 xr ex => hE x fs S' cls d H' (fb s H A cl fp s1) xr ex⟩⟩)⟩
theorem rule_comp (c : CxOk G X m n sc N) (hcm : m.cm = true) (hb : blkC (N.map os) sc scope (own.map fun k => ((N.map os).getD k Str.empty, k)) = true) (hx : xs.length ≤ 1) (hin : ∀ i ∈ tgIx t, i ∈ own) (hi : PI X tg iter (tI G X W (wpI C it))) (htg : chkT scope N t tg = true)
    (hs : ∀ x, foldedSetIterable iter X.env x = pure x)
    (hifs : ∀ X', CxOk G.in X' ⟨m.cm, false⟩ n (relS scope sc) N → X'.prog = X.prog → X'.w = X.w → X'.K = X.K → X'.mg = X.mg → X'.base = X.base → PTs X' ifs (tIfs G.in X' C xs))
    (he : ∀ X', CxOk G.in X' ⟨m.cm, false⟩ n (relS scope sc) N → X'.prog = X.prog → X'.w = X.w → X'.K = X.K → X'.mg = X.mg → X'.base = X.base → PE X' elt (tE G.in X' W0 (wpE C x))) :
    PE X (.ListComp elt [⟨tg, iter, ifs, 0⟩] scope pos) (tE G X W (wpE C (.comp x t it xs own))) := by
  obtain ⟨ok, p1, p2, p3⟩ := comp_parts (elt := elt) (x := x) c hcm hb hx hin hi htg hs hifs he
  have base := pe_lc (pos := pos) (c.calm hcm).1 c.nd hi ok p1 p2 p3 hs
  refine PE.imp base fun σ H Q h => ?_
  have e1 : (own.map fun k => ((N.map os).getD k Str.empty, k)).map (·.2) = own := by
    rw [List.map_map]
    exact List.map_id' own
  rw [e1]
  exact lc_rd hx hin h
/-- name = [..] on one line, the name a local: the store goes ahead of the block's end -/
theorem rule_setcomp (c : CxOk G X m n sc N) (hcm : m.cm = true) (hb : blkC (N.map os) sc scope (own.map fun k => ((N.map os).getD k Str.empty, k)) = true) (hx : xs.length ≤ 1) (hin : ∀ i ∈ tgIx t, i ∈ own) (hi : PI X tg iter (tI G X W (wpI C it))) (htg : chkT scope N t tg = true)
    (hs : ∀ x, foldedSetIterable iter X.env x = pure x)
    (hifs : ∀ X', CxOk G.in X' ⟨m.cm, false⟩ n (relS scope sc) N → X'.prog = X.prog → X'.w = X.w → X'.K = X.K → X'.mg = X.mg → X'.base = X.base → PTs X' ifs (tIfs G.in X' C xs))
    (he : ∀ X', CxOk G.in X' ⟨m.cm, false⟩ n (relS scope sc) N → X'.prog = X.prog → X'.w = X.w → X'.K = X.K → X'.mg = X.mg → X'.base = X.base → PE X' elt (tE G.in X' W0 (wpE C x)))
    {i : Nat} {y : Str} {py spos : Pos} (hy : X.N[i]? = some y) (hyl : X.env.scope.names.lookup y = some .local) (hsw : swapsWith (.ListComp elt [⟨tg, iter, ifs, 0⟩] scope pos) (some (.Name y py)) spos.line X.env = pure true) :
    PS X (.Assign [.Name y py] (.ListComp elt [⟨tg, iter, ifs, 0⟩] scope pos) spos) (tAsg (tE G X W (wpE C (.comp x t it xs own))) (gName i)) := by
  obtain ⟨ok, p1, p2, p3⟩ := comp_parts (elt := elt) (x := x) c hcm hb hx hin hi htg hs hifs he
  have base := ps_setLc (pos := pos) (c.calm hcm).1 c.nd hy hyl hsw hi ok p1 p2 p3 hs
  refine ⟨fun pins s σ H D I h => base.run pins s σ H D I ?_⟩
  have e1 : (own.map fun k => ((N.map os).getD k Str.empty, k)).map (·.2) = own := by
    rw [List.map_map]
    exact List.map_id' own
  rw [e1]
  exact lc_rd hx hin h
end
end PS
set_option maxHeartbeats 1000000
/-! BA: plain parameters, positional values, keywords in the parameters' order, defaults for the rest. -/
namespace PS
open PySem PySem.Spec PyProof.Rows L2 PD
theorem loop_pure {α β : Type} {f : α → β → Sem (ForInStep β)} {g : α → β → β} (Iv : List α → β → Prop) (h : ∀ a l b, Iv (a :: l) b → f a b = pure (.yield (g a b)) ∧ Iv l (g a b)) :
    ∀ (l : List α) (b : β), Iv l b → forIn l b f = (pure (l.foldl (fun b a => g a b) b) : Sem β) ∧ Iv [] (l.foldl (fun b a => g a b) b)
  | [], b, hb => by rw [List.forIn_nil]; exact ⟨rfl, hb⟩
  | a :: l, b, hb => by
    obtain ⟨e, h2⟩ := h a l b hb
    rw [List.forIn_cons, e, pure_bind]
    exact loop_pure Iv h l (g a b) h2
section
variable {ps : List Str}
theorem zip_look (nd : ps.Nodup) : ∀ {w : List Value} {i : Nat} {x : Str}, ps[i]? = some x → (ps.zip w).lookup x = w[i]? := by
  induction ps with
  | nil => intro w i x h; simp at h
  | cons p ps ih =>
    intro w i x h
    cases w with
    | nil => simp
    | cons v w =>
      cases i with
      | zero =>
        simp at h
        subst h
        simp [List.lookup_cons]
      | succ i =>
        have h' : ps[i]? = some x := by simpa using h
        have hm : x ∈ ps := List.mem_of_getElem? h'
        have ne : (x == p) = false := beq_eq_false_iff_ne.mpr fun z => (List.nodup_cons.mp nd).1 (z ▸ hm)
        rw [List.zip_cons_cons, List.lookup_cons, ne]
        simp only
        rw [ih (List.nodup_cons.mp nd).2 h']
        simp
theorem zip_more (w : List Value) (x : Str) (v : Value) (h : ps[w.length]? = some x) : ps.zip w ++ [(x, v)] = ps.zip (w ++ [v]) := by
  induction ps generalizing w with
  | nil => simp at h
  | cons p ps ih =>
    cases w with
    | nil =>
      simp at h
      subst h
      simp
    | cons u w =>
      have h' : ps[w.length]? = some x := by simpa using h
      rw [List.zip_cons_cons, List.cons_append, List.cons_append, List.zip_cons_cons, ih w h']
theorem zip_all (nd : ps.Nodup) (w : List Value) (h : w.length = ps.length) : (ps.filterMap fun n => ((ps.zip w).lookup n).map (n, ·)) = ps.zip w := by
  have g : ∀ (l : List Str) (k : Nat), ps.drop k = l → (l.filterMap fun n => ((ps.zip w).lookup n).map (n, ·)) = l.zip (w.drop k) := fun l => by
    induction l with
    | nil => intro k _; rfl
    | cons x l ih =>
      intro k hk
      have hx : ps[k]? = some x := by
        have := congrArg (·[0]?) hk
        simpa using this
      have hl : k < w.length := by
        rw [h]
        exact (List.getElem?_eq_some_iff.mp hx).1
      have hd : ps.drop (k + 1) = l := by
        rw [← List.drop_drop, hk]
        rfl
      rw [List.filterMap_cons, zip_look nd hx, List.getElem?_eq_getElem hl]
      simp only [Option.map_some]
      rw [ih (k + 1) hd, List.drop_eq_getElem_cons hl, List.zip_cons_cons]
  exact g ps 0 rfl
end
theorem kw_loop {ps : List Str} (nd : ps.Nodup) {f : Str × Value → List (Str × Value) × List (Str × Value) → Sem (ForInStep (List (Str × Value) × List (Str × Value)))} (us1 us2 : List Value) (hl : us1.length + us2.length ≤ ps.length)
    (hf : ∀ x s, ps.contains x.1 = true → (s.1.lookup x.1).isSome = false → f x s = pure (.yield (s.1 ++ [(x.1, x.2)], s.2))) :
    forIn ((ps.drop us1.length).zip us2) (ps.zip us1, ([] : List (Str × Value))) f = (pure (ps.zip (us1 ++ us2), []) : Sem _) := by
  induction us2 generalizing us1 with
  | nil => simp
  | cons v vs ih =>
    simp only [List.length_cons] at hl
    have hx : ∃ y r, ps.drop us1.length = y :: r := by
      cases hd : ps.drop us1.length with
      | nil => have := congrArg List.length hd; simp at this; omega
      | cons y r => exact ⟨y, r, rfl⟩
    obtain ⟨y, r, hy⟩ := hx
    have hyi : ps[us1.length]? = some y := by
      have := congrArg (·[0]?) hy
      simpa using this
    have c1 : ps.contains y = true := List.contains_iff_mem.mpr (List.mem_of_getElem? hyi)
    have c2 : ((ps.zip us1).lookup y).isSome = false := by
      rw [zip_look nd hyi, List.getElem?_eq_none (Nat.le_refl _)]
      rfl
    rw [hy, List.zip_cons_cons, List.forIn_cons, hf (y, v) _ c1 c2, pure_bind]
    simp only
    have hr : r = ps.drop (us1 ++ [v]).length := by
      rw [List.length_append, List.length_singleton, ← List.drop_drop, hy]
      rfl
    rw [zip_more us1 y v hyi, hr, ih (us1 ++ [v]) (by rw [List.length_append, List.length_singleton]; omega), List.append_assoc]
    rfl
theorem df_loop {ps : List Str} (nd : ps.Nodup) {f : Str × Value → List (Str × Value) → Sem (ForInStep (List (Str × Value)))} (hf : ∀ x s, f x s = if (s.lookup x.1).isNone = true then pure (.yield (s ++ [(x.1, x.2)])) else pure (.yield s)) :
    ∀ (its w : List Value) (k : Nat), k ≤ w.length → k + its.length = ps.length → w.length ≤ ps.length → forIn ((ps.drop k).zip its) (ps.zip w) f = (pure (ps.zip (w ++ its.drop (w.length - k))) : Sem _)
  | [], w, k, h1, h2, h3 => by simp
  | v :: vs, w, k, h1, h2, h3 => by
    simp only [List.length_cons] at h2
    have hx : ∃ y r, ps.drop k = y :: r := by
      cases hd : ps.drop k with
      | nil => have := congrArg List.length hd; simp at this; omega
      | cons y r => exact ⟨y, r, rfl⟩
    obtain ⟨y, r, hy⟩ := hx
    have hyi : ps[k]? = some y := by
      have := congrArg (·[0]?) hy
      simpa using this
    have hr : r = ps.drop (k + 1) := by
      rw [← List.drop_drop, hy]
      rfl
    rw [hy, List.zip_cons_cons, List.forIn_cons, hf, zip_look nd hyi]
    by_cases hk : k < w.length
    · rw [List.getElem?_eq_getElem hk]
      simp only [Option.isNone_some, Bool.false_eq_true, if_false, pure_bind]
      rw [hr, df_loop nd hf vs w (k + 1) (by omega) (by omega) h3]
      rw [show w.length - k = (w.length - (k + 1)) + 1 by omega, List.drop_succ_cons]
    · have e : k = w.length := by omega
      rw [List.getElem?_eq_none (by omega)]
      simp only [Option.isNone_none, if_true, pure_bind]
      rw [zip_more w y v (by rw [← e]; exact hyi), hr, df_loop nd hf vs (w ++ [v]) (k + 1) (by rw [List.length_append, List.length_singleton]; omega) (by omega) (by rw [List.length_append, List.length_singleton]; omega)]
      rw [show (w ++ [v]).length - (k + 1) = 0 by rw [List.length_append, List.length_singleton]; omega, show w.length - k = 0 by omega, List.drop_zero, List.drop_zero, List.append_assoc]
      rfl
theorem bind_plain {fd : FuncData} {ps : List Str} (h1 : fd.params.posonlyargs = []) (h2 : fd.params.vararg = none) (h3 : fd.params.kwonlyargs = []) (h5 : fd.params.kwarg = none) (h6 : fd.params.args.map (·.arg) = ps) (nd : ps.Nodup)
    (us1 us2 its : List Value) (hl : us1.length + us2.length ≤ ps.length) (hd : its.length ≤ ps.length) (hm : ps.length ≤ us1.length + us2.length + its.length) :
    ∃ k, bindArgs fd ⟨us1, (ps.drop us1.length).zip us2⟩ = seqItems? fd.defaults >>= k ∧ (∀ o : Option (Array Value), (o.getD #[]).toList = its → k o = pure (ps.zip (us1 ++ us2 ++ its.drop (us1.length + us2.length - (ps.length - its.length))))) := by
  unfold bindArgs
  simp only [h1, h2, h3, h5, List.map_nil, List.nil_append, h6]
  rw [kw_loop nd us1 us2 hl ?hf]
  case hf =>
    intro x s c1 c2
    simp only [c1, c2, Bool.true_or, if_true, Bool.false_eq_true, if_false]
  rw [pure_bind]
  refine ⟨_, rfl, fun o ho => ?_⟩
  simp only [ho]
  have hn : (us1 ++ us2).length = us1.length + us2.length := List.length_append
  have i1 : (decide (us1.length > ps.length) && (none : Option Arg).isNone) = false := by
    rw [decide_eq_false (by omega)]
    rfl
  have i2 : its.length - ps.length = 0 := by omega
  simp only [i1, i2, List.drop_zero, Bool.false_eq_true, if_false]
  have i3 : (List.filter (fun n => (List.lookup n (ps.zip (us1 ++ us2))).isNone) (ps.take (ps.length - its.length))) = [] := by
    rw [List.filter_eq_nil_iff]
    intro x hx
    obtain ⟨j, hj⟩ := List.mem_iff_getElem?.mp hx
    have hj' : j < ps.length - its.length := by
      have := (List.getElem?_eq_some_iff.mp hj).1
      rw [List.length_take] at this
      omega
    rw [List.getElem?_take_of_lt hj'] at hj
    rw [zip_look nd hj, List.getElem?_eq_getElem (by rw [hn]; omega)]
    simp
  simp only [i3, List.isEmpty_nil, Bool.not_true, Bool.false_eq_true, if_false]
  rw [df_loop nd (fun x s => rfl) its (us1 ++ us2) (ps.length - its.length) (by rw [hn]; omega) (by omega) (by rw [hn]; exact hl), pure_bind]
  simp only [List.forIn_nil, pure_bind, List.isEmpty_nil, Bool.not_true, Bool.false_eq_true, if_false, List.append_nil, hn]
  rw [zip_all nd]
  rw [List.length_append, List.length_drop, hn]
  omega
end PS
set_option maxHeartbeats 2000000
/-! PS, part 19: arguments: plain ones, slots handed over, lambdas. -/
namespace PS
open PySem PySem.Spec PyProof.Rows L2 PD
section
variable {G : GT} {X : Cx} {W : WX} {m : Md} {n : Nat} {sc : Scope} {N : List String} {C : CallT}
variable {pins : List (Addr × Obj)} {σ : L2.St} {H : Hp} {s : Shared} {e : PD.Env} {S : Sto}
/-- what was not tracked at the entry stays, up to slots -/
theorem kept_of (hex : X.ex = []) (I : Inv X pins σ H s) : Kept X.s_0.heap s.heap X.H_0 H := fun b o h1 h2 => by
  have hx : b ∉ X.ex := by rw [hex]; simp
  exact ⟨I.base.any h1 h2 hx, I.base.free b o h1 h2 hx⟩
theorem clo_now (c : CxOk G X m n sc N) (hc : G.clo = true) (I : Inv X pins σ H s) (sr : SR G X σ H e S) {f : Addr} {a : AV} (h : CloAt G.T X.K X.mg G.hp G.H0 f a) : CloAt G.T X.K X.mg s.heap H f a := by
  obtain ⟨h1, h2, h3⟩ := c.link hc
  have hx := sr.ext
  rw [h2] at hx
  rw [h1, h2] at h
  exact h.on hx (kept_of h3 I)
/-- a slot's value, handed over -/
theorem rep_now (c : CxOk G X m n sc N) (I : Inv X pins σ H s) (sr : SR G X σ H e S) {i : Nat} {a : AV} (ha : e[i]? = some (some a)) (nx : notX a) {v : V} (r : RepA G X H a v) : RepV G.T X.K X.mg s.heap H a v := by
  cases a with
  | d x => exact r
  | clo ps fr b caps dfl =>
    obtain ⟨f, rfl, h⟩ := r
    have hc : G.clo = true := by
      cases q : G.clo with
      | true => rfl
      | false =>
        obtain ⟨d, z⟩ := sr.dat q i _ ha
        cases z
    exact ⟨f, rfl, clo_now c hc I sr h⟩
  | exc x fs => exact nx.elim
/-- THE READING of an argument list -/
structure PAA (G : GT) (X : Cx) (W : WX) (wA : PD.Env → Sto → (List AV → Sto → Prop) → QX → Prop) (k : Nat) (xs : List Expr) : Prop where
  run : ∀ (pos : Pos) (pins : List (Addr × Obj)) (s : Shared) (σ : L2.St) (H : Hp) (e : PD.Env) (S : Sto) (Q : List AV → Sto → Prop) (E : QX), Inv X pins σ H s → SR G X σ H e S → wA e S Q E → (∀ x fs S' cls d H', SR G X σ H' e S' → XRep G X H' x fs cls d → E x fs S' → W cls d σ H') →
    wpAny (model X.prog X.w) X.A (spliced (backTo pos (starEach xs X.env))) (fun us s' => ∃ vs H' as S', Inv X pins σ H' s' ∧ Ext H H' ∧ Vals vs us ∧ RepVs G.T X.K X.mg s'.heap H' as vs ∧ as.length = k ∧ SR G X σ H' e S' ∧ Q as S') X.xe s
theorem rule_anil : PAA G X W (wpA C []) 0 [] := ⟨fun pos pins s σ H e S Q E I sr hw hE => Calls.spliced_nil ⟨[], H, [], S, I, .refl H, .nil, .nil, rfl, sr, hw⟩⟩
theorem wpA_pl {x : Ex} (h : isPl x = true) (r : List Ex) (e : PD.Env) (S : Sto) (Q : List AV → Sto → Prop) (E : QX) : wpA C (x :: r) e S Q E = wpE C x e S (fun d S1 => wpA C r e S1 (fun as S2 => Q (.d d :: as) S2) E) E := by
  cases x <;> first | rfl | cases h
variable {a : Expr} {es : List Expr} {x : Ex} {r : List Ex} {k : Nat}
theorem rule_apl (hx : isPl x = true) (hp : plainB a = true) (ha : PE X a (tE G X W (wpE C x))) (hr : PAA G X W (wpA C r) k es) : PAA G X W (wpA C (x :: r)) (k + 1) (a :: es) := by
  refine ⟨fun pos pins s σ H e S Q E I sr hw hE => ?_⟩
  rw [star_cons hp]
  rw [wpA_pl hx] at hw
  show wpAny _ _ (spliced ((false, eval a X.env) :: backTo pos (starEach es X.env))) _ _ s
  refine Calls.spliced_cons (thn (ha.run pins s σ H (fun v H1 => ∃ d S1, Ext H H1 ∧ Rep X.K X.mg H1 d v ∧ SR G X σ H1 e S1 ∧ wpA C r e S1 (fun as S2 => Q (.d d :: as) S2) E) I ⟨e, S, _, E, sr, hw, fun v H1 d S1 x1 r1 s1 q => ⟨d, S1, x1, r1, s1, q⟩, hE⟩) fun u s1 ⟨v, H1, I1, rv, d, S1, x1, r1, sr1, hw1⟩ => ?_)
  refine thn (hr.run pos pins s1 σ H1 e S1 _ E I1 sr1 hw1 hE) fun us s2 ⟨vs, H2, as, S2, I2, x2, rvs, rs, hl, sr2, q⟩ => ?_
  exact ⟨v :: vs, H2, .d d :: as, S2, I2, x1.trans x2, .cons rv rvs, .cons (r1.ext x2) rs, congrArg (· + 1) hl, sr2, q⟩
theorem rule_aav (c : CxOk G X m n sc N) {i : Nat} {y : Str} {p : Pos} (h : (atB N i y && visB sc y && dbgB y) = true) (hr : PAA G X W (wpA C r) k es) : PAA G X W (wpA C (.av i :: r)) (k + 1) (.Name y p :: es) := by
  simp only [Bool.and_eq_true] at h
  obtain ⟨⟨h1, h2⟩, h3⟩ := h
  have hv := pe_var (pos := p) (c.at h1) (c.vis h2) (dbgB_ok h3).1 (dbgB_ok h3).2
  refine ⟨fun pos pins s σ H e S Q E I sr hw hE => ?_⟩
  obtain ⟨a, ha, nx, hw⟩ := hw
  obtain ⟨v, hs, ra⟩ := sr.env i a ha
  show wpAny _ _ (spliced ((false, eval (.Name y p) X.env) :: backTo pos (starEach es X.env))) _ _ s
  refine Calls.spliced_cons (thn (hv.run pins s σ H (fun v' H1 => v' = v ∧ H1 = H) I ⟨v, hs, rfl, rfl⟩) fun u s1 ⟨v', H1, I1, rv, e1, e2⟩ => ?_)
  subst e1
  subst e2
  refine thn (hr.run pos pins s1 σ H1 e S _ E I1 sr hw hE) fun us s2 ⟨vs, H2, as, S2, I2, x2, rvs, rs, hl, sr2, q⟩ => ?_
  exact ⟨v' :: vs, H2, a :: as, S2, I2, x2, .cons rv rvs, .cons (rep_now c I2 sr2 ha nx (ra.ext x2)) rs, congrArg (· + 1) hl, sr2, q⟩
/-- what a lambda captures stands in cells -/
theorem caps_now (c : CxOk G X m n sc N) (I : Inv X pins σ H s) (sr : SR G X σ H e S) {scope : Scope} (hfree : ∀ y ∈ scope.names, y.2 = .free → ∃ c, X.env.cells.lookup y.1 = some c) :
    ∀ (fr : List String) (caps : List Nat) (cs : List AV), fr.length = caps.length → (fr.zip caps).all (fun p => atB N p.2 (os p.1)) = true → (∀ x ∈ fr, scope.names.lookup (os x) = some .free ∧ (sc.names.lookup (os x) = some .cell ∨ sc.names.lookup (os x) = some .free)) →
      capsOf e caps = some cs → CapsAt G.T X.K X.mg s.heap H fr (cloFrom X.env.cells scope.names []) cs
  | [], [], cs, _, _, _, hc => by cases hc; exact .nil
  | [], _ :: _, _, hl, _, _, _ => by cases hl
  | _ :: _, [], _, hl, _, _, _ => by cases hl
  | x :: fr, i :: caps, cs, hl, ha, hf, hc => by
    have ha' : (atB N i (os x) && (fr.zip caps).all fun p => atB N p.2 (os p.1)) = true := ha
    rw [Bool.and_eq_true] at ha'
    obtain ⟨hfx, hkx⟩ := hf x List.mem_cons_self
    have ih := fun cs' h => caps_now c I sr hfree fr caps cs' (by simpa using hl) ha'.2 (fun y hy => hf y (List.mem_cons_of_mem _ hy)) h
    -- the cell
    have hmem : (os x, NameKind.free) ∈ scope.names := PySem.mem_of_lookup hfx
    obtain ⟨cl, hcl⟩ := mem_lookup (cloFrom_has (cells := X.env.cells) (acc := []) hmem)
    have hcl2 : X.env.cells.lookup (os x) = some cl := by
      rcases cloFrom_mem (PySem.mem_of_lookup hcl) with hm | ⟨_, h2⟩
      · cases hm
      · obtain ⟨c1, h1⟩ := hfree _ hmem rfl
        have h1 : X.env.cells.lookup (os x) = some c1 := h1
        rw [h1] at h2 ⊢
        exact congrArg some h2.symm
    have slot : ∀ (a : AV), e[i]? = some (some a) → ∃ v u, RelV v u ∧ RepA G X H a v ∧ s.heap.IsCell cl (some u) := fun a h => by
      obtain ⟨v, hv, ra⟩ := sr.env i a h
      obtain ⟨mm, hn, hl⟩ := I.loc
      obtain ⟨u, ru, lk⟩ := hl i (os x) v (c.at ha'.1) hv (by rw [c.sc]; exact hkx.elim (fun k => .inr (.inl k)) fun k => .inr (.inr k))
      refine ⟨v, u, ru, ra, ?_⟩
      rcases lk with ⟨k, _⟩ | ⟨_, c3, e3, z⟩
      · have k : X.env.scope.names.lookup (os x) = some .local := k
        rw [c.sc] at k
        rcases hkx with k2 | k2 <;> rw [k2] at k <;> cases k
      · rw [hcl2] at e3
        cases e3
        exact z
    have hfr : H cl = none := I.freeC _ _ hcl2
    simp only [capsOf] at hc
    cases hi : e[i]? with
    | none => rw [hi] at hc; cases hc
    | some o =>
      cases o with
      | none => rw [hi] at hc; cases hc
      | some a =>
        rw [hi] at hc
        cases hcs : capsOf e caps with
        | none => rw [hcs] at hc; cases a <;> cases hc
        | some l =>
          rw [hcs] at hc
          obtain ⟨v, u, ru, ra, hcell⟩ := slot a hi
          cases a with
          | d y => cases hc; exact .d hcl hcell hfr ru ra (ih l hcs)
          | clo ps fr' b cs' ds =>
            cases hc
            obtain ⟨f, rfl, h⟩ := ra
            cases ru
            have hclo : G.clo = true := by
              cases q : G.clo with
              | true => rfl
              | false =>
                obtain ⟨d, z⟩ := sr.dat q i _ hi
                cases z
            exact .c hcl hcell hfr (clo_now c hclo I sr h) (ih l hcs)
          | exc _ _ => cases hc
end
end PS
set_option maxHeartbeats 2000000
/-! PS, part 20: a lambda is made. -/
namespace PS
open PySem PySem.Spec PyProof.Rows L2 PD
section
variable {G : GT} {X : Cx} {W : WX} {m : Md} {n : Nat} {sc : Scope} {N : List String} {C : CallT}
variable {pins : List (Addr × Obj)} {σ : L2.St} {H : Hp} {s : Shared} {e : PD.Env} {S : Sto}
/-- all but tables: what the readings need -/
theorem extN_ext {H H' : Hp} (x : LamX.ExtN H H') : Ext H H' := fun b o h k => x b o h fun ps z => by subst z; cases k
theorem extN_sto {K : PySem.W.Frag} {mg : Str → Option Value} {H H' : Hp} {S : Sto} (x : LamX.ExtN H H') (r : SRel K mg H S) : SRel K mg H' S := fun a o q => by
  have h := r a o q
  cases o with
  | lst xs => obtain ⟨vs, h1, h2⟩ := h; exact ⟨vs, x a _ h1 (fun _ z => by cases z), h2.ext (extN_ext x)⟩
  | ins C fs => obtain ⟨Ca, dx, gs, h1, h2, h3⟩ := h; exact ⟨Ca, dx, gs, x a _ h1 (fun _ z => by cases z), h2, h3.ext (extN_ext x)⟩
  | dct _ => exact h
/-- the tables, with one row more -/
theorem tabs_more {T : List (Addr × Str)} {P c' : Addr} {q : Str} {ps : Array Value} {H1 : Hp} {pos : Pos} (hu : ∀ p ∈ T, p.1 = P → p.2 = q) (hT : LamX.Tabs T H) (hP : H P = some (.tbl ps)) (ht : TriplesOk ps.toList) (nC : H c' = none)
    (hH : H1 = upd (upd H P (.tbl (ps ++ #[rawInt pos.line, rawInt pos.col, .ref c']))) c' (LamX.CodeO c' q)) (ex : LamX.ExtN H H1) : LamX.Tabs T H1 := fun p hp => by
  have old : ∀ (l : List Value), (∀ (pos : Pos) (cv : Value), codeAmong pos l = some cv → ∃ c, cv = .ref c ∧ H c = some (LamX.CodeO c p.2)) → ∀ (pos : Pos) (cv : Value), codeAmong pos l = some cv → ∃ c, cv = .ref c ∧ H1 c = some (LamX.CodeO c p.2) := fun l h pos cv hc => by
    obtain ⟨c0, z1, z2⟩ := h pos cv hc
    exact ⟨c0, z1, ex _ _ z2 LamX.codeO_ne⟩
  obtain ⟨ps', a1, a2, a3⟩ := hT p hp
  by_cases hb : p.1 = P
  · rw [hb, hP] at a1
    cases a1
    have hq := hu p hp hb
    have eL : (ps ++ #[rawInt pos.line, rawInt pos.col, .ref c']).toList = ps.toList ++ [rawInt pos.line, rawInt pos.col, .ref c'] := by simp
    refine ⟨_, by rw [hH, hb, upd_ne (ne_of_none hP nC), upd_same], by rw [eL]; exact PySem.TriplesOk_snoc _ _ _ _ ht, fun p' cv hcv => ?_⟩
    rw [eL] at hcv
    rcases LamX.among_app _ ht hcv with z | z
    · exact old _ a3 p' cv z
    · refine ⟨c', z, ?_⟩
      rw [hH, upd_same, hq]
  · exact ⟨ps', by rw [hH, upd_ne (ne_of_none a1 nC), upd_ne hb]; exact a1, a2, old _ a3⟩
abbrev lamQ (X : Cx) : Str := X.env.qual ++ "<lambda>"
theorem lam_tail {T : List (Addr × Str)} {c P : Addr} {params : Arguments} {body : Expr} {scope : Scope} {pos : Pos} {dV : Value} {E : Value → Shared → Prop} {Q : Value → Shared → Prop} (I : Inv X pins σ H s) (TB : LamX.TabB X.base X.mg c P) (hcode : X.env.code = .ref c)
    (hm : (P, lamQ X) ∈ T) (hu : ∀ p ∈ T, p.1 = P → p.2 = lamQ X) (hT : LamX.Tabs T H) (hfree : ∀ y ∈ scope.names, y.2 = .free → ∃ c, X.env.cells.lookup y.1 = some c)
    (h : ∀ (f c' : Addr) (doc pm ctv : Value) (H1 : Hp) (s' : Shared), Inv X pins σ H1 s' → LamX.ExtN H H1 → LamX.Tabs T H1 → s'.heap.get? f = some (cloObj (lamQ X) params body scope (cloFrom X.env.cells scope.names []) dV doc pm c' ctv) → H1 f = none → s.heap.objs.size ≤ f →
      H1 c' = some (LamX.CodeO c' (lamQ X)) → Q (.ref f) s') :
    wpAny (model X.prog X.w) X.A (makeTail "<lambda>" (lamQ X) params (.expr body) scope X.env dV .none none pos pos.line) Q E s := by
  obtain ⟨ps, hP, ht, ha⟩ := hT _ hm
  have bP : s.heap.BuiltinsAt X.mg P := TB.bm.keeps I.bk
  have hP' : s.heap.get? P = some { cls := .none, data := .fields ps } := I.hok P _ hP
  have cd := TB.code.keeps I.bk
  have gl := I.mod.glob.keeps I.bk
  cases hc : codeAmong pos ps.toList with
  | none =>
    refine PySem.W.kdv_makeTail (mg := X.mg) (c := c) (P := P) (ps := ps) (closure_ok hfree) I.ok.glob gl hcode cd hP' ht hc TB.gP bP fun c' ctv doc h' tk hx hge hlt hrec htb => ?_
    obtain ⟨c2, oc, vs, t, z, hoc, hd, hv⟩ := hrec
    cases z
    have hsz : s.heap.objs.size ≤ h'.objs.size := Nat.le_trans hge (Nat.le_of_lt hlt)
    have nC : H c' = none := I.hok.fresh hge
    have push : ∀ {b : Addr} {o ob : Obj}, h'.get? b = some o → (h'.push ob).get? b = some o := fun e => Heap.get?_push_of_some _ e
    have I1 := LamX.inv_table (t' := tk) (q := lamQ X) (more := #[rawInt pos.line, rawInt pos.col, .ref c']) (h' := h'.push (PySem.W.kdv_obj "<lambda>" (lamQ X) params (.expr body) scope (cloFrom X.env.cells scope.names []) dV doc ((X.mg "__name__").getD .none) c' ctv)) I hP
      (fun b o hb q => push (hx b o hb q)) (push htb) hge ⟨oc, vs, t, push hoc, hd, hv⟩
    have ex : LamX.ExtN H (upd (upd H P (.tbl (ps ++ #[rawInt pos.line, rawInt pos.col, .ref c']))) c' (LamX.CodeO c' (lamQ X))) := fun b o q nt => by
      have n1 : b ≠ c' := ne_of_none q nC
      have n2 : b ≠ P := fun z => nt ps (Option.some.inj (q.symm.trans (by rw [z]; exact hP)))
      rw [upd_ne n1, upd_ne n2, q]
    refine h h'.objs.size c' doc ((X.mg "__name__").getD .none) ctv _ _ I1 ex (tabs_more hu hT hP ht nC rfl ex) (Heap.get?_push_size _ rfl) ?_ hsz upd_same
    have n1 : h'.objs.size ≠ c' := Nat.ne_of_gt hlt
    have n2 : h'.objs.size ≠ P := Nat.ne_of_gt (Nat.lt_of_lt_of_le (Heap.lt_size hP') hsz)
    rw [upd_ne n1, upd_ne n2, I.hok.fresh hsz]
  | some cv =>
    obtain ⟨c', rfl, hco⟩ := ha pos cv hc
    refine PySem.W.kdv_makeTailHit (mg := X.mg) (c := c) (P := P) (ps := ps) (closure_ok hfree) I.ok.glob gl hcode cd hP' ht hc bP fun ctv doc h' tk hx hsz => ?_
    have I1 : Inv X pins σ H { s with heap := h'.push (PySem.W.kdv_obj "<lambda>" (lamQ X) params (.expr body) scope (cloFrom X.env.cells scope.names []) dV doc ((X.mg "__name__").getD .none) c' ctv), toks := tk } := I.kept fun b o q => Heap.get?_push_of_some _ (hx b o q)
    exact h h'.objs.size c' doc ((X.mg "__name__").getD .none) ctv H _ I1 (fun _ _ q _ => q) hT (Heap.get?_push_size _ rfl) (I.hok.fresh hsz) hsz hco
end
end PS
set_option maxHeartbeats 2000000
/-! PS, part 21: a lambda as an argument. -/
namespace PS
open PySem PySem.Spec PyProof.Rows L2 PD
theorem lam_eval {M : Model} {A : Around} {E : Value → Shared → Prop} {s : Shared} {env : PySem.Env} {params : Arguments} {body : Expr} {scope : Scope} {pos : Pos} {Q : Value → Shared → Prop} (hk0 : params.kw_defaults = [])
    (h : wpAny M A (evalAll (evalEach params.defaults env)) (fun dv s₁ => wpAny M A (makeFunction "<lambda>" (env.qual ++ "<lambda>") params (.expr body) scope env dv [] [] pos pos.line) Q E s₁) E s) : wpAny M A (eval (.Lambda params body scope pos) env) Q E s := by
  rw [arm_eval_Lambda, defaultsOf_eq, hk0]
  refine wpAny_bind (wpAny_mono h (fun dv s1 h1 => ?_) fun _ _ x => x)
  exact wpAny_bind (wpAny_holding (wpAny_pure h1))
section
variable {G : GT} {X : Cx} {W : WX} {m : Md} {n : Nat} {sc : Scope} {N : List String} {C : CallT}
variable {es : List Expr} {r : List Ex} {k : Nat}
/-- what a lambda owes, by its text -/
structure LamOk (T : Tb) (sc : Scope) (N : List String) (ps fr : List String) (b : Ex) (caps : List Nat) (dfl : List Ex) (a : Arguments) (x : Expr) (scope : Scope) : Prop where
  lam : lamB T ps fr b dfl.length a x scope = true
  cap : fr.length = caps.length
  at_ : (fr.zip caps).all (fun p => atB N p.2 (os p.1)) = true
  free : ∀ y ∈ scope.names, y.2 = .free → sc.names.lookup y.1 = some .cell ∨ sc.names.lookup y.1 = some .free
  own : ∀ x ∈ fr, scope.names.lookup (os x) = some .free
  kw : a.kw_defaults = []
theorem rule_alam (c : CxOk G X m n sc N) (hm : m.lm = true) {ps fr : List String} {b : Ex} {caps : List Nat} {dfl : List Ex} {a : Arguments} {x : Expr} {scope : Scope} {p : Pos} (L : LamOk G.T sc N ps fr b caps dfl a x scope)
    (hd : (dfl = [] ∧ a.defaults = []) ∨ ∃ d y, dfl = [d] ∧ a.defaults = [y] ∧ PE X y (tE G X W (wpE C d))) (hr : PAA G X W (wpA C r) k es) : PAA G X W (wpA C (.lam ps fr b caps dfl :: r)) (k + 1) (.Lambda a x scope p :: es) := by
  obtain ⟨hclo, cc, P, hcode, TB, hmem, hu⟩ := c.lam hm
  refine ⟨fun pos pins s σ H e S Q E I sr hw hE => ?_⟩
  have hfree : ∀ y ∈ scope.names, y.2 = .free → ∃ c, X.env.cells.lookup y.1 = some c := fun y hy z => by
    rcases L.free y hy z with q | q
    · exact I.ok.has _ (.inl (by show X.env.scope.names.lookup y.1 = _; rw [c.sc]; exact q))
    · exact I.ok.has _ (.inr (by show X.env.scope.names.lookup y.1 = _; rw [c.sc]; exact q))
  show wpAny _ _ (spliced ((false, eval (.Lambda a x scope p) X.env) :: backTo pos (starEach es X.env))) _ _ s
  refine Calls.spliced_cons (lam_eval L.kw ?_)
  -- behind the defaults: dV stands, its tuple pinned
  have tail : ∀ (tp : List (Addr × Obj)) (dV : Value) (ds : List D) (H1 : Hp) (S1 : Sto) (s1 : Shared), Inv X (pins ++ tp) σ H1 s1 → Ext H H1 → SR G X σ H1 e S1 → ds.length = dfl.length →
      (∀ (s2 : Shared) (H2 : Hp), Inv X (pins ++ tp) σ H2 s2 → Ext H1 H2 → DflAt X.K X.mg s2.heap H2 dV ds) → (∃ cs, capsOf e caps = some cs ∧ wpA C r e S1 (fun as S2 => Q (.clo ps fr b cs ds :: as) S2) E) →
      wpAny (model X.prog X.w) X.A (makeTail "<lambda>" (lamQ X) a (.expr x) scope X.env dV .none none p p.line) (fun v s₁ => wpAny (model X.prog X.w) X.A (spliced (backTo pos (starEach es X.env)))
        (fun vs s' => ∃ vs_1 H' as S', Inv X pins σ H' s' ∧ Ext H H' ∧ Vals vs_1 (v :: vs) ∧ RepVs G.T X.K X.mg s'.heap H' as vs_1 ∧ as.length = k + 1 ∧ SR G X σ H' e S' ∧ Q as S') X.xe s₁) X.xe s1 := fun tp dV ds H1 S1 s1 I1 x1 sr1 hds hdf ⟨cs, hcs, hw1⟩ => by
    refine lam_tail I1 TB hcode hmem hu sr1.tab hfree fun f c' doc pm ctv H2 s2 I2 xn T2 ho hfn hge hco => ?_
    have x2 : Ext H1 H2 := extN_ext xn
    have sr2 : SR G X σ H2 e S1 := sr1.to x2 T2 (extN_sto xn sr1.sto)
    have fL : f ≠ X.env.locals := Nat.ne_of_gt (Nat.lt_of_lt_of_le I1.lt hge)
    have I3 : Inv X ((pins ++ tp) ++ [(f, cloObj (lamQ X) a x scope (cloFrom X.env.cells scope.names []) dV doc pm c' ctv)]) σ H2 s2 := I2.pins_of fun q hq => by
      rcases List.mem_append.mp hq with hq | hq
      · exact I2.pin q (List.mem_append_right _ hq)
      · rw [List.mem_singleton.mp hq]
        exact ⟨ho, hfn, fL, I1.nofs hge, fun v z => by cases z⟩
    refine thn (hr.run pos _ s2 σ H2 e S1 _ E I3 sr2 hw1 hE) fun us s3 ⟨vs, H3, as, S3, I4, x3, rvs, rs, hl, sr3, q⟩ => ?_
    have I5 : Inv X (pins ++ tp) σ H3 s3 := I4.unpinned
    obtain ⟨g1, g2, _⟩ := I4.pin (f, cloObj (lamQ X) a x scope (cloFrom X.env.cells scope.names []) dV doc pm c' ctv) (List.mem_append_right _ (List.mem_append_right _ List.mem_cons_self))
    refine ⟨.ref f :: vs, H3, .clo ps fr b cs ds :: as, S3, I5.unpinned, (x1.trans x2).trans x3, .cons rfl rvs, .cons ⟨f, rfl, ?_⟩ rs, congrArg (· + 1) hl, sr3, q⟩
    have back : ∀ y c, (cloFrom X.env.cells scope.names []).lookup y = some c → X.env.cells.lookup y = some c ∧ (y, NameKind.free) ∈ scope.names := fun y c q => by
      rcases cloFrom_mem (PySem.mem_of_lookup q) with z | ⟨z1, z2⟩
      · cases z
      · obtain ⟨c1, hc1⟩ := hfree _ z1 rfl
        have hc1 : X.env.cells.lookup y = some c1 := hc1
        rw [hc1] at z2 ⊢
        exact ⟨congrArg some z2.symm, z1⟩
    refine .mk (sl := #[]) g1 g2 (x3 _ _ hco rfl) (by rw [hds]; exact L.lam) (fun y z c q1 q2 => I.ok.inj y z c (back y c q1).1 (back z c q2).1) (fun y c q => ?_) (hdf s3 H3 I5 (x2.trans x3)) ?_
    · have hl := L.lam
      unfold lamB at hl
      simp only [Bool.and_eq_true, List.all_eq_true] at hl
      have := hl.2 _ (back y c q).2
      simp only [List.any_eq_true, beq_iff_eq] at this
      obtain ⟨x, h1, h2⟩ := this
      exact ⟨x, h1, h2.symm⟩
    exact caps_now c I5 sr3 hfree fr caps cs L.cap L.at_ (fun y hy => ⟨L.own y hy, L.free _ (PySem.mem_of_lookup (L.own y hy)) rfl⟩) hcs
  have hw : wpL C dfl e S (fun ds S1 => ∃ cs, capsOf e caps = some cs ∧ wpA C r e S1 (fun as S2 => Q (.clo ps fr b cs ds :: as) S2) E) E := hw
  rcases hd with ⟨rfl, h0⟩ | ⟨d, y, rfl, h0, hy⟩
  · rw [h0]
    refine PySem.W.kdv_all0 ?_
    rw [makeFunction_eq]
    simp only [List.zip_nil_right, List.filterMap_nil, List.isEmpty_nil, if_true, pure_bind]
    exact tail [] .none [] H S s (by rw [List.append_nil]; exact I) (.refl H) sr rfl (fun _ _ _ _ => .inl ⟨rfl, rfl⟩) hw
  · rw [h0]
    refine PySem.W.kdv_all1 (thn (hy.run pins s σ H (fun v H1 => ∃ d' S1, Ext H H1 ∧ Rep X.K X.mg H1 d' v ∧ SR G X σ H1 e S1 ∧ ∃ cs, capsOf e caps = some cs ∧ wpA C r e S1 (fun as S2 => Q (.clo ps fr b cs [d'] :: as) S2) E) I
      ⟨e, S, _, E, sr, hw, fun v H1 d S1 x1 r1 s1 q => ⟨d, S1, x1, r1, s1, q⟩, hE⟩) fun u s1 ⟨v, H1, I1, rv, d', S1, x1, r1, sr1, hw1⟩ => PySem.W.kdv_all0 ?_)
    rw [makeFunction_eq]
    simp only [List.zip_nil_right, List.filterMap_nil, List.isEmpty_nil, if_true, pure_bind, List.isEmpty_cons, Bool.false_eq_true, if_false]
    refine wpAny_bind (wpAny_newTextTuple ?_)
    have hn : H1 s1.heap.objs.size = none := I1.hok.fresh (Nat.le_refl _)
    have I2 : Inv X pins σ H1 { s1 with heap := s1.heap.push { cls := .type "tuple", data := .seq [u].toArray } } := I1.kept (t' := s1.toks) fun b o q => Heap.get?_push_of_some _ q
    have I3 : Inv X (pins ++ [(s1.heap.objs.size, { cls := .type "tuple", data := .seq [u].toArray })]) σ H1 { s1 with heap := s1.heap.push { cls := .type "tuple", data := .seq [u].toArray } } := I2.pins_of fun q hq => by
      rcases List.mem_append.mp hq with hq | hq
      · exact I2.pin q (List.mem_append_right _ hq)
      · rw [List.mem_singleton.mp hq]
        exact ⟨Heap.get?_push_size _ rfl, hn, Nat.ne_of_gt I1.lt, I1.nofs (Nat.le_refl _), fun v z => by cases z⟩
    refine tail [(s1.heap.objs.size, { cls := .type "tuple", data := .seq [u].toArray })] (.ref s1.heap.objs.size) [d'] H1 S1 _ I3 x1 sr1 rfl (fun s2 H2 J x2 => ?_) hw1
    obtain ⟨g1, g2, _⟩ := J.pin (s1.heap.objs.size, { cls := .type "tuple", data := .seq [u].toArray }) (List.mem_append_right _ (List.mem_append_right _ List.mem_cons_self))
    exact .inr ⟨_, _, [u], _, [v], rfl, g1, rfl, g2, by simp, .cons rv .nil, .cons (r1.ext x2) .nil⟩
end
end PS
set_option maxHeartbeats 2000000
/-! PS, part 22: calls of defs and of closures. -/
namespace PS
open PySem PySem.Spec PyProof.Rows L2 PD
section
variable {G : GT} {X : Cx} {W : WX} {m : Md} {n : Nat} {sc : Scope} {N : List String} {C : CallT}
/-- plain parameters, as bindArgs sees them -/
theorem args_of {a : Arguments} {ps : List String} {k : Nat} (h : argsB a ps k = true) : a.posonlyargs = [] ∧ a.vararg = none ∧ a.kwonlyargs = [] ∧ a.kw_defaults = [] ∧ a.kwarg = none ∧ a.args.map (·.arg) = ps.map os ∧ a.defaults.length = k ∧ k ≤ ps.length := by
  unfold argsB argN at h
  simp only [Bool.and_eq_true, List.isEmpty_iff, Option.isNone_iff_eq_none, beq_iff_eq, decide_eq_true_eq] at h
  obtain ⟨⟨⟨⟨⟨⟨⟨h1, h2⟩, h3⟩, h4⟩, h5⟩, h6⟩, h7⟩, h8⟩ := h
  exact ⟨h1, h2, h3, h4, h5, h6, h7, h8⟩
/-- the values that a call binds -/
theorem fn_binds {K : PySem.W.Frag} {mg : Str → Option Value} {F : FnD} {f : String} {fa : Addr} {fd : FuncData} (h : FnIn K mg F f fa fd) {s : Shared} (kin : K.In s.heap) (us1 us2 : List Value) {j : Nat} (hj : j ≤ F.dfl.length) (hl : us1.length + us2.length + j = F.ps.length) :
    ∃ its vs, Vals vs its ∧ (∀ H, Reps K mg H (F.dfl.drop (F.dfl.length - j)) vs) ∧ its.length = j ∧ BindsTo s fd ⟨us1, ((F.ps.map os).drop us1.length).zip us2⟩ ((F.ps.map os).zip (us1 ++ us2 ++ its)) := by
  obtain ⟨p1, p2, p3, _, p5, p6, _⟩ := args_of h.par
  rcases h.dfl with ⟨d0, hv⟩ | ⟨t, o, its, k, vs, hv, hk, ho, ne, r, q⟩
  · have hj0 : j = 0 := by rw [d0] at hj; simpa using hj
    subst hj0
    refine ⟨[], [], .nil, fun H => by rw [d0]; exact .nil, rfl, ?_⟩
    obtain ⟨k, e1, e2⟩ := bind_plain p1 p2 p3 p5 p6 h.nd us1 us2 [] (by rw [List.length_map]; omega) (Nat.zero_le _) (by rw [List.length_map]; simp; omega)
    refine .of_eq ?_
    rw [e1, hv]
    have e3 : seqItems? Value.none = pure none := rfl
    rw [e3, pure_bind, e2 none rfl]
    simp
  · have hlen : its.length = F.dfl.length := by rw [← r.length, ← (q fun _ => none).len]
    obtain ⟨k', e1, e2⟩ := bind_plain p1 p2 p3 p5 p6 h.nd us1 us2 its (by rw [List.length_map]; omega) (by rw [List.length_map, hlen]; exact h.le) (by rw [List.length_map, hlen]; omega)
    have e4 : us1.length + us2.length - ((F.ps.map os).length - its.length) = F.dfl.length - j := by
      rw [List.length_map, hlen]
      have := h.le
      omega
    refine ⟨its.drop (F.dfl.length - j), vs.drop (F.dfl.length - j), r.drop _, fun H => (q H).drop _, by rw [List.length_drop, hlen]; omega, ?_⟩
    refine BindsTo.of_defaults hv (kin _ _ hk) ho e1 ?_
    rw [e2 (some its.toArray) (by simp), e4]
theorem RepVs.app {T : Tb} {K : PySem.W.Frag} {mg : Str → Option Value} {hp : Heap} {H : Hp} : ∀ {as bs : List AV} {vs ws : List V}, RepVs T K mg hp H as vs → RepVs T K mg hp H bs ws → RepVs T K mg hp H (as ++ bs) (vs ++ ws)
  | _, _, _, _, .nil, s => s
  | _, _, _, _, .cons r t, s => .cons r (t.app s)
theorem RepVs.of {T : Tb} {K : PySem.W.Frag} {mg : Str → Option Value} {hp : Heap} {H : Hp} : ∀ {ds : List D} {vs : List V}, Reps K mg H ds vs → RepVs T K mg hp H (ds.map .d) vs
  | _, _, .nil => .nil
  | _, _, .cons r t => .cons r (RepVs.of t)
theorem RepVs.len {T : Tb} {K : PySem.W.Frag} {mg : Str → Option Value} {hp : Heap} {H : Hp} : ∀ {as : List AV} {vs : List V}, RepVs T K mg hp H as vs → as.length = vs.length
  | _, _, .nil => rfl
  | _, _, .cons _ t => congrArg (· + 1) t.len
/-- a call, run at a state -/
theorem run_call (c : CxOk G X m n sc N) (hm : m.cm = true) (tk : Takes X W) {pins : List (Addr × Obj)} {σ : L2.St} {H : Hp} {s : Shared} {e : PD.Env} {S : Sto} {f : AV} {as : List AV} {vs : List V} {us : List Value} {u : Value} {us1 : List Value} {kw : List (Str × Value)} {Q : VK} {Q' : QV} {E' : QX}
    (I : Inv X pins σ H s) (sr : SR G X σ H e S) (hw : CVX G X n f as S Q' E') (hc : CalAt G.T X.K X.mg s.heap H f u) (ha : HeadOk G.T f → ArgAt G.T X.K X.mg s f ⟨us1, kw⟩ us) (r : RepVs G.T X.K X.mg s.heap H as vs) (rv : Vals vs us)
    (hQ : ∀ v H' d S', Ext H H' → Rep X.K X.mg H' d v → SR G X σ H' e S' → Q' d S' → Q v H') (hE : ∀ x fs S' cls d H', SR G X σ H' e S' → XRep G X H' x fs cls d → E' x fs S' → W cls d σ H') :
    wpAny (model X.prog X.w) X.A (call u us1 kw) (EP X pins σ Q) X.xe s := by
  have rc := hw.2 X.A X.stack s H u ⟨us1, kw⟩ vs us Q (fun cls d H' => W cls d σ H') (c.calm hm).2 I.env0 hc (ha hw.1) r rv sr.tab sr.sto
    (fun v H' d S' x t s' rd q => hQ v H' d S' x rd (sr.to x t s') q) (fun x fs S' cls d H' xe t s' xr q => hE x fs S' cls d H' (sr.to xe t s') xr q)
  refine wpAny_call (codeAny_mono rc fun r s' hq => ?_)
  cases r with
  | error e => exact tk e s' (XE.of_call I (fun cls d H' h => h) hq)
  | ok fl =>
    cases fl with
    | ret u => exact I.after hq
    | next => exact False.elim hq
    | brk => exact False.elim hq
    | cont => exact False.elim hq
variable {es : List Expr} {xs : List Ex} {k : Nat} {p pos : Pos}
theorem fns_fn {T : Tb} {f : String} {F : FnD} (h : T.fns.lookup f = some F) : fnB T f = true := by
  unfold fnB
  rw [Bool.or_eq_true]
  refine .inl (List.any_eq_true.mpr ?_)
  have g : ∀ (l : List (String × FnD)), l.lookup f = some F → ∃ x ∈ l, (x.1 == f) = true := fun l => by
    induction l with
    | nil => intro h; cases h
    | cons p l ih =>
      intro h
      rw [List.lookup_cons] at h
      by_cases q : f = p.1
      · exact ⟨p, List.mem_cons_self, beq_iff_eq.mpr q.symm⟩
      · rw [show (f == p.1) = false from beq_eq_false_iff_ne.mpr q] at h
        obtain ⟨x, hx, e⟩ := ih h
        exact ⟨x, List.mem_cons_of_mem _ hx, e⟩
  exact g _ h
/-- a def of the program is one thing -/
theorem FnIn.uniq {K : PySem.W.Frag} {mg : Str → Option Value} {F F' : FnD} {f : String} {a a' : Addr} {fd fd' : FuncData} (h : FnIn K mg F f a fd) (h' : FnIn K mg F' f a' fd') : a' = a ∧ fd' = fd := by
  have e := h.at_.symm.trans h'.at_
  cases e
  obtain ⟨oc, od, osl, e1⟩ := h.lk
  obtain ⟨oc', od', osl', e2⟩ := h'.lk
  rw [e1] at e2
  cases e2
  exact ⟨rfl, rfl⟩
/-- f(..), f a def of the program, no keywords -/
theorem rule_call (c : CxOk G X m n sc N) (hm : m.cm = true) (tk : Takes X W) {f : String} {F : FnD} {dfl : List D} (h : (gloB sc (os f) && dbgB (os f)) = true) (hF : G.T.fns.lookup f = some F) (hl : xs.length + dfl.length = F.ps.length)
    (hd : dfl = F.dfl.drop (F.dfl.length - dfl.length)) (hdl : dfl.length ≤ F.dfl.length) (hp : ∀ a ∈ es, plainB a = true) (hx : xs.length = k) (hes : es.length = k) (ha : PAA G X W (wpA (CVX G X n) xs) k es) :
    PE X (.Call (.Name (os f) p) es [] pos) (tE G X W (wpE (CVX G X n) (.call f xs [] dfl))) := by
  rw [Bool.and_eq_true] at h
  obtain ⟨h1, h2⟩ := h
  obtain ⟨fa, fd, hf⟩ := c.facts.fns f F hF
  obtain ⟨fa', e1, hk⟩ := c.facts.fn f (fns_fn hF)
  rw [hf.at_] at e1
  cases e1
  refine ⟨fun pins s σ H Q I ⟨e, S, Q', E', sr, hw, hQ, hE⟩ => ?_⟩
  refine wpAny_Call_Name_kw (ld_glob I (c.gl h1) hf.at_ ?_ (dbgB_ok h2).1)
  have hend : ∀ (us : List Value) (s1 : Shared), (∃ vs H' as S', Inv X pins σ H' s1 ∧ Ext H H' ∧ Vals vs us ∧ RepVs G.T X.K X.mg s1.heap H' as vs ∧ as.length = k ∧ SR G X σ H' e S' ∧ CVX G X n (.d (.fn f)) (as ++ dfl.map .d) S' Q' E') →
      X.K.In s1.heap ∧ wpAny (model X.prog X.w) X.A (call (.ref fa) ([] ++ us)) (EP X pins σ Q) X.xe s1 := fun us s1 ⟨vs, H1, as, S1, I1, x1, rv, rs, hlen, sr1, hw1⟩ => by
    have hul : us.length = k := by rw [← rv.length, ← rs.len, hlen]
    obtain ⟨its, dvs, r1, r2, hil, hb⟩ := fn_binds hf I1.kIn us [] hdl (by simp; omega)
    rw [← hd] at r2
    refine ⟨I1.kIn, ?_⟩
    rw [List.nil_append]
    refine run_call c hm tk (us := us ++ its) (vs := vs ++ dvs) I1 sr1 hw1 ⟨fa, rfl, hf.at_⟩ (fun _ F' a' fd' q1 q2 q3 => ?_) (rs.app (.of (r2 H1))) (rv.append r1) (fun v H' d S' x r s q => hQ v H' d S' (x1.trans x) r s q) hE
    rw [hF] at q1
    cases q1
    obtain ⟨rfl, rfl⟩ := hf.uniq q2
    simpa using hb
  cases es with
  | nil =>
    have hk0 : k = 0 := hes.symm
    have hx0 : xs = [] := List.length_eq_zero_iff.mp (hx.trans hk0)
    subst hx0
    obtain ⟨g1, g2⟩ := hend [] s ⟨[], H, [], S, I, .refl H, .nil, .nil, hk0.symm, sr, hw⟩
    exact PySem.W.callWith_K0 g1 hk g2
  | cons e1 er =>
    exact PySem.W.callWith_K (h₀ := X.base) I.ok.mod.kin hk (thn (ha.run pos pins s σ H e S _ E' I sr hw hE) hend) (star_cons (hp e1 List.mem_cons_self) er X.env) (star_none (fun a h => hp a (List.mem_cons_of_mem _ h)) pos X.env)
end
end PS
set_option maxHeartbeats 2000000
/-! PS, part 23: a slot's value called; keywords. -/
namespace PS
open PySem PySem.Spec PyProof.Rows L2 PD
section
variable {G : GT} {X : Cx} {W : WX} {m : Md} {n : Nat} {sc : Scope} {N : List String} {C : CallT}
variable {es : List Expr} {xs : List Ex} {k : Nat} {p pos : Pos}
theorem rule_cloc (c : CxOk G X m n sc N) (hm : m.cm = true) (tk : Takes X W) {i : Nat} {y : Str} (h : (atB N i y && visB sc y && dbgB y) = true) (hp : ∀ a ∈ es, plainB a = true) (hx : xs.length = k) (hes : es.length = k) (ha : PAA G X W (wpA (CVX G X n) xs) k es) :
    PE X (.Call (.Name y p) es [] pos) (tE G X W (wpE (CVX G X n) (.cloc i xs))) := by
  simp only [Bool.and_eq_true] at h
  obtain ⟨⟨h1, h2⟩, h3⟩ := h
  have hv := pe_var (pos := p) (c.at h1) (c.vis h2) (dbgB_ok h3).1 (dbgB_ok h3).2
  refine ⟨fun pins s σ H Q I ⟨e, S, Q', E', sr, hw, hQ, hE⟩ => ?_⟩
  obtain ⟨f, hf, hcan, hw⟩ := hw
  obtain ⟨v, hs, ra⟩ := sr.env i f hf
  refine wpAny_Call_Name_kw (thn (hv.run pins s σ H (fun v' H1 => v' = v ∧ H1 = H) I ⟨v, hs, rfl, rfl⟩) fun u s1 ⟨v', H1, I1, rv, e1, e2⟩ => ?_)
  subst e1
  subst e2
  -- behind the arguments
  have hnil : es = [] → xs = [] := fun z => List.length_eq_zero_iff.mp (hx.trans (hes.symm.trans (by rw [z]; rfl)))
  cases f with
  | d x =>
    cases x with
    | fn x =>
      cases ra with
      | @fn _ fa hmg kp =>
        obtain rfl : u = Value.ref fa := rv
        have hend : ∀ (us : List Value) (s2 : Shared), (∃ vs H' as S', Inv X pins σ H' s2 ∧ Ext H1 H' ∧ Vals vs us ∧ RepVs G.T X.K X.mg s2.heap H' as vs ∧ as.length = k ∧ SR G X σ H' e S' ∧ CVX G X n (.d (.fn x)) as S' Q' E') →
            X.K.In s2.heap ∧ wpAny (model X.prog X.w) X.A (call (.ref fa) ([] ++ us)) (EP X pins σ Q) X.xe s2 := fun us s2 ⟨vs, H2, as, S2, I2, x2, rvs, rs, hlen, sr2, hw2⟩ => by
          refine ⟨I2.kIn, ?_⟩
          rw [List.nil_append]
          refine run_call c hm tk (us := us) (vs := vs) I2 sr2 hw2 ⟨fa, rfl, hmg⟩ (fun _ F' a' fd' q1 q2 q3 => ?_) rs rvs (fun v H' d S' x r s q => hQ v H' d S' (x2.trans x) r s q) hE
          obtain ⟨its, dvs, r1, r2, hil, hb⟩ := fn_binds q2 I2.kIn us [] (Nat.zero_le _) (by simp; omega)
          rw [List.length_eq_zero_iff.mp hil] at hb
          simpa using hb
        cases es with
        | nil =>
          have hx0 := hnil rfl
          subst hx0
          obtain ⟨g1, g2⟩ := hend [] s1 ⟨[], H1, [], S, I1, .refl H1, .nil, .nil, hx, sr, hw⟩
          exact PySem.W.callWith_K0 g1 kp g2
        | cons e1 er =>
          exact PySem.W.callWith_K (h₀ := X.base) I.ok.mod.kin kp (thn (ha.run pos pins s1 σ H1 e S _ E' I1 sr hw hE) hend) (star_cons (hp e1 List.mem_cons_self) er X.env) (star_none (fun a h => hp a (List.mem_cons_of_mem _ h)) pos X.env)
    | _ => exact hcan.elim
  | exc x fs => exact hcan.elim
  | clo ps fr b caps dfl =>
    obtain ⟨fa, rfl, hc⟩ := ra
    obtain rfl : u = Value.ref fa := rv
    have hclo : G.clo = true := by
      cases q : G.clo with
      | true => rfl
      | false =>
        obtain ⟨d, z⟩ := sr.dat q i _ hf
        cases z
    have fnAt : ∀ {s2 : Shared} {H2 : Hp} {S2 : Sto}, Inv X pins σ H2 s2 → SR G X σ H2 e S2 → CloAt G.T X.K X.mg s2.heap H2 fa (.clo ps fr b caps dfl) ∧ PySem.W.FnAt fa s2.heap := fun I2 sr2 => by
      have z := clo_now c hclo I2 sr2 hc
      refine ⟨z, ?_⟩
      cases z with
      | mk ho => exact ⟨_, _, _, _, ho⟩
    have hend : ∀ (us : List Value) (s2 : Shared), (∃ vs H' as S', Inv X pins σ H' s2 ∧ Ext H1 H' ∧ Vals vs us ∧ RepVs G.T X.K X.mg s2.heap H' as vs ∧ as.length = k ∧ SR G X σ H' e S' ∧ CVX G X n (.clo ps fr b caps dfl) as S' Q' E') →
        PySem.W.FnAt fa s2.heap ∧ wpAny (model X.prog X.w) X.A (call (.ref fa) ([] ++ us)) (EP X pins σ Q) X.xe s2 := fun us s2 ⟨vs, H2, as, S2, I2, x2, rvs, rs, hlen, sr2, hw2⟩ => by
      obtain ⟨z1, z2⟩ := fnAt I2 sr2
      refine ⟨z2, ?_⟩
      rw [List.nil_append]
      exact run_call c hm tk (us := us) (vs := vs) I2 sr2 hw2 ⟨fa, rfl, z1⟩ (fun _ => rfl) rs rvs (fun v H' d S' x r s q => hQ v H' d S' (x2.trans x) r s q) hE
    cases es with
    | nil =>
      have hx0 := hnil rfl
      subst hx0
      obtain ⟨g1, g2⟩ := hend [] s1 ⟨[], H1, [], S, I1, .refl H1, .nil, .nil, hx, sr, hw⟩
      exact PySem.W.callWith_F0 g1 g2
    | cons e1 er =>
      exact PySem.W.callWith_F (fnAt I1 sr).2 (thn (ha.run pos pins s1 σ H1 e S _ E' I1 sr hw hE) hend) (star_cons (hp e1 List.mem_cons_self) er X.env) (star_none (fun a h => hp a (List.mem_cons_of_mem _ h)) pos X.env)
end
end PS
set_option maxHeartbeats 2000000
/-! PS, part 24: calls with keywords. -/
namespace PS
open PySem PySem.Spec PyProof.Rows L2 PD
section
variable {G : GT} {X : Cx} {W : WX} {m : Md} {n : Nat} {sc : Scope} {N : List String} {C : CallT}
/-- plain arguments, one by one -/
inductive PEs (G : GT) (X : Cx) (W : WX) (C : CallT) : List Expr → List Ex → Prop
  | nil : PEs G X W C [] []
  | cons {a : Expr} {x : Ex} {as : List Expr} {xs : List Ex} (p : plainB a = true) (h : PE X a (tE G X W (wpE C x))) (t : PEs G X W C as xs) : PEs G X W C (a :: as) (x :: xs)
theorem PEs.pa {as : List Expr} {xs : List Ex} (h : PEs G X W C as xs) : PA X as (tL G X W xs.length (wpL C xs)) := by
  induction h with
  | nil => exact rule_lnil
  | cons p h _ ih => exact rule_lcons p h ih
theorem PEs.plain {as : List Expr} {xs : List Ex} (h : PEs G X W C as xs) : ∀ a ∈ as, plainB a = true := by
  induction h with
  | nil => intro a ha; cases ha
  | cons p h _ ih =>
    intro a ha
    rcases List.mem_cons.mp ha with rfl | ha
    · exact p
    · exact ih a ha
theorem PEs.split : ∀ {as bs : List Expr} {xs : List Ex}, PEs G X W C (as ++ bs) xs → ∃ xs1 xs2, xs = xs1 ++ xs2 ∧ xs1.length = as.length ∧ PEs G X W C as xs1 ∧ PEs G X W C bs xs2
  | [], bs, xs, h => ⟨[], xs, rfl, rfl, .nil, h⟩
  | a :: as, bs, _, .cons p h t => by
    obtain ⟨x1, x2, rfl, h1, h2, h3⟩ := PEs.split t
    exact ⟨_ :: x1, x2, rfl, congrArg (· + 1) h1, .cons p h h2, h3⟩
theorem PEs.len {as : List Expr} {xs : List Ex} (h : PEs G X W C as xs) : as.length = xs.length := by
  induction h with
  | nil => rfl
  | cons _ _ _ ih => exact congrArg (· + 1) ih
theorem PK.imp {ks : List Keyword} {t t' : TA} (h : PK X ks t) (k : ∀ σ H Q, t' σ H Q → t σ H Q) : PK X ks t' := ⟨fun pos pins s σ H Q I q => h.run pos pins s σ H Q I (k σ H Q q)⟩
theorem PEs.pk : ∀ {ks : List Keyword} {xs : List Ex}, PEs G X W C (ks.map (·.value)) xs → PK X ks (tL G X W xs.length (wpL C xs))
  | [], _, .nil => PK.imp pk_nil fun σ H Q ⟨e, S, Q', E', sr, hw, hQ, _⟩ => hQ [] H [] S (.refl H) .nil rfl sr hw
  | ⟨nm, v, kp⟩ :: ks, _, .cons p h t => PK.imp (pk_cons h (PEs.pk t)) fun σ H Q h => tL.cons h
theorem wpA_all : ∀ {xs : List Ex}, xs.all isPl = true → ∀ (e : PD.Env) (S : Sto) (Q : List AV → Sto → Prop) (E : QX), wpA C xs e S Q E = wpL C xs e S (fun ds S' => Q (ds.map .d) S') E
  | [], _, _, _, _, _ => rfl
  | x :: r, h, e, S, Q, E => by
    have h' : (isPl x && r.all isPl) = true := h
    rw [Bool.and_eq_true] at h'
    rw [wpA_pl h'.1]
    show wpE C x e S _ E = wpE C x e S _ E
    congr 1
    funext d S1
    exact wpA_all h'.2 e S1 _ E
theorem wpL_app : ∀ (xs ys : List Ex) (e : PD.Env) (S : Sto) (Q : List D → Sto → Prop) (E : QX), wpL C (xs ++ ys) e S Q E = wpL C xs e S (fun ds S1 => wpL C ys e S1 (fun es S2 => Q (ds ++ es) S2) E) E
  | [], _, _, _, _, _ => rfl
  | x :: xs, ys, e, S, Q, E => by
    show wpE C x e S _ E = wpE C x e S _ E
    congr 1
    funext d S1
    exact wpL_app xs ys e S1 _ E
theorem kws_all {pos : Pos} {env : PySem.Env} : ∀ {ks : List Keyword}, kwsB ks = true → (backToKw pos (keywordEach ks env)).all (·.1.isSome) = true ∧ (backToKw pos (keywordEach ks env)).filterMap (·.1) = kwN ks ∧ (backToKw pos (keywordEach ks env)).any (·.1.isNone) = false ∧ (kwN ks).length = ks.length
  | [], _ => ⟨rfl, rfl, rfl, rfl⟩
  | ⟨nm, v, kp⟩ :: ks, h => by
    have h' : ((nm.isSome && plainB v) && kwsB ks) = true := h
    simp only [Bool.and_eq_true] at h'
    obtain ⟨i1, i2, i3, i4⟩ := kws_all (pos := pos) (env := env) h'.2
    cases nm with
    | none => cases h'.1.1
    | some y =>
      refine ⟨?_, ?_, ?_, congrArg (· + 1) i4⟩
      · show (true && (backToKw pos (keywordEach ks env)).all (·.1.isSome)) = true
        rw [i1]
        rfl
      · show y :: (backToKw pos (keywordEach ks env)).filterMap (·.1) = y :: kwN ks
        rw [i2]
      · show (false || (backToKw pos (keywordEach ks env)).any (·.1.isNone)) = false
        rw [i3]
        rfl
theorem strB_eq : ∀ {a : List String} {b : List Str}, strB a b = true → b = a.map os
  | [], [], _ => rfl
  | [], _ :: _, h => (Bool.false_ne_true h).elim
  | _ :: _, [], h => (Bool.false_ne_true h).elim
  | x :: a, y :: b, h => by
    have h' : (os x == y && strB a b) = true := h
    rw [Bool.and_eq_true] at h'
    rw [strB_eq h'.2, ← eq_of_beq h'.1]
    rfl
theorem zip_take {α β : Type} : ∀ (l : List α) (k : Nat) (r : List β), r.length = k → (l.take k).zip r = l.zip r
  | [], k, r, _ => by simp
  | a :: l, 0, r, h => by
    rw [List.length_eq_zero_iff.mp h]
    simp
  | a :: l, k + 1, [], h => by cases h
  | a :: l, k + 1, b :: r, h => by
    rw [List.take_succ_cons, List.zip_cons_cons, List.zip_cons_cons, zip_take l k r (by simpa using h)]
variable {as : List Expr} {ks : List Keyword} {xs : List Ex} {p pos : Pos}
/-- f(.., k = v, ..) -/
theorem rule_callk (c : CxOk G X m n sc N) (hm : m.cm = true) (tk : Takes X W) {f : String} {F : FnD} {kws : List String} {dfl : List D} (h : (gloB sc (os f) && dbgB (os f)) = true) (hF : G.T.fns.lookup f = some F) (hl : xs.length + dfl.length = F.ps.length)
    (hd : dfl = F.dfl.drop (F.dfl.length - dfl.length)) (hdl : dfl.length ≤ F.dfl.length) (hk : kwsB ks = true) (hn : strB kws (kwN ks) = true) (hps : kws = (F.ps.take xs.length).drop (xs.length - kws.length)) (hkl : kws.length ≤ xs.length) (hall : xs.all isPl = true)
    (ha : PEs G X W (CVX G X n) (as ++ ks.map (·.value)) xs) :
    PE X (.Call (.Name (os f) p) as ks pos) (tE G X W (wpE (CVX G X n) (.call f xs kws dfl))) := by
  rw [Bool.and_eq_true] at h
  obtain ⟨h1, h2⟩ := h
  obtain ⟨fa, fd, hf⟩ := c.facts.fns f F hF
  obtain ⟨fa', e1, hkp⟩ := c.facts.fn f (fns_fn hF)
  rw [hf.at_] at e1
  cases e1
  obtain ⟨xs1, xs2, rfl, hx1, pe1, pe2⟩ := ha.split
  obtain ⟨k1, k2, k3, k4⟩ := kws_all (pos := pos) (env := X.env) hk
  have hx2 : xs2.length = ks.length := by rw [← pe2.len, List.length_map]
  have hkw : kws.length = ks.length := by
    have := congrArg List.length (strB_eq hn)
    rw [List.length_map] at this
    omega
  refine ⟨fun pins s σ H Q I ⟨e, S, Q', E', sr, hw, hQ, hE⟩ => ?_⟩
  refine wpAny_Call_Name_kw (ld_glob I (c.gl h1) hf.at_ ?_ (dbgB_ok h2).1)
  have hw : wpA (CVX G X n) (xs1 ++ xs2) e S (fun as S1 => CVX G X n (.d (.fn f)) (as ++ dfl.map .d) S1 Q' E') E' := hw
  rw [wpA_all hall, wpL_app] at hw
  -- behind the positional ones: the keywords' values, then the call
  have hend : ∀ (us1 : List Value) (s1 : Shared), (∃ vs H1 ds S1, Inv X pins σ H1 s1 ∧ Ext H H1 ∧ Vals vs us1 ∧ Reps X.K X.mg H1 ds vs ∧ ds.length = xs1.length ∧ SR G X σ H1 e S1 ∧ wpL (CVX G X n) xs2 e S1 (fun es S2 => CVX G X n (.d (.fn f)) ((ds ++ es).map .d ++ dfl.map .d) S2 Q' E') E') →
      wpAny (model X.prog X.w) X.A (evalAll ((backToKw pos (keywordEach ks X.env)).map (·.2))) (fun us2 s₂ => X.K.In s₂.heap ∧ wpAny (model X.prog X.w) X.A (call (.ref fa) ([] ++ us1) (((backToKw pos (keywordEach ks X.env)).filterMap (·.1)).zip us2)) (EP X pins σ Q) X.xe s₂) X.xe s1 :=
    fun us1 s1 ⟨vs, H1, ds, S1, I1, x1, rv, rd, hdl1, sr1, hw1⟩ => by
      refine thn (pe2.pk.run pos pins s1 σ H1 (fun ws H2 => ∃ es S2, Ext H1 H2 ∧ Reps X.K X.mg H2 es ws ∧ es.length = xs2.length ∧ SR G X σ H2 e S2 ∧ CVX G X n (.d (.fn f)) ((ds ++ es).map .d ++ dfl.map .d) S2 Q' E') I1
        ⟨e, S1, _, E', sr1, hw1, fun ws H2 es S2 x2 r2 l2 s2 q => ⟨es, S2, x2, r2, l2, s2, q⟩, hE⟩) fun us2 s2 ⟨ws, H2, I2, rw2, es, S2, x2, r2, l2, sr2, hw2⟩ => ?_
      refine ⟨I2.kIn, ?_⟩
      have u1 : us1.length = xs1.length := by rw [← rv.length, ← rd.len, hdl1]
      have u2 : us2.length = xs2.length := by rw [← rw2.length, ← r2.len, l2]
      have hl' : us1.length + us2.length + dfl.length = F.ps.length := by
        rw [List.length_append] at hl
        omega
      obtain ⟨its, dvs, d1, d2, hil, hb⟩ := fn_binds hf I2.kIn us1 us2 hdl hl'
      rw [← hd] at d2
      rw [List.nil_append, k2, strB_eq hn]
      have hz : (kws.map os).zip us2 = ((F.ps.map os).drop us1.length).zip us2 := by
        have e1 : kws.map os = ((F.ps.map os).drop us1.length).take us2.length := by
          have e2 : (xs1 ++ xs2).length - kws.length = us1.length := by rw [List.length_append]; omega
          rw [e2] at hps
          rw [hps, List.drop_take, List.map_take, List.map_drop]
          congr 1
          rw [List.length_append]
          omega
        rw [e1, zip_take _ _ _ rfl]
      rw [hz]
      refine run_call c hm tk (us := us1 ++ us2 ++ its) (vs := vs ++ ws ++ dvs) I2 sr2 hw2 ⟨fa, rfl, hf.at_⟩ (fun _ F' a' fd' q1 q2 q3 => ?_) ?_ ((rv.append rw2).append d1) (fun v H' d S' x r s q => hQ v H' d S' ((x1.trans x2).trans x) r s q) hE
      · rw [hF] at q1
        cases q1
        obtain ⟨rfl, rfl⟩ := hf.uniq q2
        exact hb
      · exact (RepVs.of ((rd.ext x2).app r2)).app (.of (d2 H2))
  have start : ∀ {wr : wpL (CVX G X n) xs1 e S (fun ds S1 => wpL (CVX G X n) xs2 e S1 (fun es S2 => CVX G X n (.d (.fn f)) ((ds ++ es).map .d ++ dfl.map .d) S2 Q' E') E') E'}, wpAny (model X.prog X.w) X.A (spliced (backTo pos (starEach as X.env)))
      (fun us1 s1 => ∃ vs H1 ds S1, Inv X pins σ H1 s1 ∧ Ext H H1 ∧ Vals vs us1 ∧ Reps X.K X.mg H1 ds vs ∧ ds.length = xs1.length ∧ SR G X σ H1 e S1 ∧ wpL (CVX G X n) xs2 e S1 (fun es S2 => CVX G X n (.d (.fn f)) ((ds ++ es).map .d ++ dfl.map .d) S2 Q' E') E') X.xe s := fun {wr} =>
    thn (pe1.pa.run pos pins s σ H (fun vs H1 => ∃ ds S1, Ext H H1 ∧ Reps X.K X.mg H1 ds vs ∧ ds.length = xs1.length ∧ SR G X σ H1 e S1 ∧ wpL (CVX G X n) xs2 e S1 (fun es S2 => CVX G X n (.d (.fn f)) ((ds ++ es).map .d ++ dfl.map .d) S2 Q' E') E') I
      ⟨e, S, _, E', sr, wr, fun vs H1 ds S1 x1 r1 l1 s1 q => ⟨ds, S1, x1, r1, l1, s1, q⟩, hE⟩) fun us s1 ⟨vs, H1, I1, rv, ds, S1, x1, r1, l1, s1', q⟩ => ⟨vs, H1, ds, S1, I1, x1, rv, r1, l1, s1', q⟩
  cases as with
  | nil =>
    have : xs1 = [] := List.length_eq_zero_iff.mp hx1
    subst this
    exact PySem.W.callWith_KW0 (h₀ := X.base) I.ok.mod.kin hkp k1 (hend [] s ⟨[], H, [], S, I, .refl H, .nil, .nil, rfl, sr, hw⟩) (by
      show (false || (backToKw pos (keywordEach ks X.env)).any (·.1.isNone)) = false
      rw [k3]
      rfl)
  | cons e1 er =>
    have hp := pe1.plain
    exact PySem.W.callWith_KW (h₀ := X.base) I.ok.mod.kin hkp k1 (thn (start (wr := hw)) hend) (by
      rw [k3, star_none hp]
      rfl) (star_cons (hp e1 List.mem_cons_self) er X.env)
end
end PS
set_option maxHeartbeats 4000000
/-! PS, part 25: THE SOUNDNESS OF EXPRESSIONS. -/
namespace PS
open PySem PySem.Spec PyProof.Rows L2 PD
theorem takes_w0 {X : Cx} : Takes X W0 := fun _ _ ⟨_, _, _, _, _, _, _, _, _, _, _, _, _, _, _, _, w⟩ => w.elim
theorem cvx_eq {G : GT} {X X' : Cx} {n : Nat} (h1 : X'.prog = X.prog) (h2 : X'.w = X.w) (h3 : X'.K = X.K) (h4 : X'.mg = X.mg) (h5 : X'.base = X.base) : CVX G.in X' n = CVX G X n := by
  unfold CVX
  rw [h1, h2, h3, h4, h5]
theorem lamok_of {T : Tb} {m : Md} {sc scope : Scope} {N ps fr : List String} {b : Ex} {caps : List Nat} {dfl : List Ex} {a : Arguments} {x : Expr}
    (h : (argsB a ps dfl.length && chkE T b ⟨true, false⟩ scope (ps ++ fr) x &&
      decide (scope.kind = .function) && !scope.isCoroutine && !scope.isGenerator && decide (fr.length = caps.length) &&
      decide (ps.map os ++ fr.map os).Nodup &&
      (ps.all fun p => decide (scope.names.lookup (os p) = some .local)) && (fr.all fun p => decide (scope.names.lookup (os p) = some .free)) &&
      (scope.names.all fun y => match y.2 with
        | .local => ps.any fun p => os p == y.1
        | .free => (fr.any fun p => os p == y.1) && (match sc.names.lookup y.1 with | some .cell => true | some .free => true | _ => false)
        | .cell => false
        | _ => true) &&
      (fr.zip caps).all (fun p => atB N p.2 (os p.1))) = true) : LamOk T sc N ps fr b caps dfl a x scope := by
  simp only [Bool.and_eq_true] at h
  obtain ⟨⟨⟨⟨⟨⟨⟨⟨⟨⟨h1, h2⟩, h3⟩, h4⟩, h5⟩, h6⟩, h7⟩, h8⟩, h9⟩, h10⟩, h11⟩ := h
  refine ⟨?_, of_decide_eq_true h6, h11, fun y hy z => ?_, fun y hy => ?_, (args_of h1).2.2.2.1⟩
  · unfold lamB
    simp only [Bool.and_eq_true]
    refine ⟨⟨⟨⟨⟨⟨⟨⟨h1, h2⟩, h3⟩, h4⟩, h5⟩, h7⟩, h8⟩, h9⟩, ?_⟩
    rw [List.all_eq_true] at h10 ⊢
    intro y hy
    have := h10 y hy
    revert this
    cases y.2 <;> intro q <;> first | exact q | (rw [Bool.and_eq_true] at q; exact q.1) | rfl
  · have := List.all_eq_true.mp h10 y hy
    rw [z] at this
    simp only [Bool.and_eq_true] at this
    have q := this.2
    revert q
    cases sc.names.lookup y.1 with
    | none => intro q; cases q
    | some k => cases k <;> intro q <;> first | exact .inl rfl | exact .inr rfl | cases q
  · exact of_decide_eq_true (List.all_eq_true.mp h9 y hy)
theorem folded_of {T : Tb} {it : Ex} {m : Md} {sc : Scope} {N : List String} {x : Expr} {env : PySem.Env} (h : chkI T it m sc N x = true) : ∀ v, foldedSetIterable x env v = pure v := by
  cases x with
  | Set e1 k1 p1 =>
    cases it with
    | ival a =>
      have h' : (plainB (.Set e1 k1 p1) && chkE T a m sc N (.Set e1 k1 p1)) = true := h
      cases h'
    | _ => exact (Bool.false_ne_true h).elim
  | _ => intro v; rfl
theorem chkL_len {T : Tb} {m : Md} {sc : Scope} {N : List String} : ∀ {es : List Ex} {xs : List Expr}, chkL T es m sc N xs = true → es.length = xs.length
  | [], [], _ => rfl
  | [], _ :: _, h => (Bool.false_ne_true h).elim
  | _ :: _, [], h => (Bool.false_ne_true h).elim
  | a :: r, x :: s, h => by
    have h' : (plainB x && chkE T a m sc N x && chkL T r m sc N s) = true := h
    rw [Bool.and_eq_true] at h'
    exact congrArg (· + 1) (chkL_len h'.2)
theorem os_eq {a : String} {x : Str} (h : (os a == x) = true) : x = os a := (eq_of_beq h).symm
theorem rng_no {P : Prop} {a b : Nat} (h : (a == 1 || a == 2) = true) (e : b = a) (h1 : b ≠ 1) (h2 : b ≠ 2) : P := by
  subst e
  rw [Bool.or_eq_true, beq_iff_eq, beq_iff_eq] at h
  exact absurd h (by simp [h1, h2])
theorem sA_pl {G : GT} {X : Cx} {W : WX} {C : CallT} {a : Ex} {r : List Ex} {x : Expr} {s : List Expr} (hx : isPl a = true) (hp : plainB x = true) (ha : PE X x (tE G X W (wpE C a)))
    (hr : PAA G X W (wpA C r) r.length s ∧ s.length = r.length ∧ (∀ a ∈ s, plainB a = true) ∧ (r.all isPl = true → PEs G X W C s r)) :
    PAA G X W (wpA C (a :: r)) (a :: r).length (x :: s) ∧ (x :: s).length = (a :: r).length ∧ (∀ b ∈ x :: s, plainB b = true) ∧ ((a :: r).all isPl = true → PEs G X W C (x :: s) (a :: r)) := by
  obtain ⟨q1, q2, q3, q4⟩ := hr
  refine ⟨rule_apl hx hp ha q1, congrArg (· + 1) q2, fun b hb => ?_, fun z => .cons hp ha (q4 ?_)⟩
  · rcases List.mem_cons.mp hb with rfl | hb
    · exact hp
    · exact q3 b hb
  · have z' : (isPl a && r.all isPl) = true := z
    rw [Bool.and_eq_true] at z'
    exact z'.2
mutual
theorem sE : ∀ (a : Ex) {G : GT} {X : Cx} {W : WX} {m : Md} {n : Nat} {sc : Scope} {N : List String} {x : Expr}, chkE G.T a m sc N x = true → CxOk G X m n sc N → Takes X W → PE X x (tE G X W (wpE (CVX G X n) a))
  | .var i, G, X, W, m, n, sc, N, x, h, c, tk => by
    cases x with
    | Name y p => exact rule_var c h
    | _ => exact (Bool.false_ne_true h).elim
  | .non, G, X, W, m, n, sc, N, x, h, c, tk => by
    cases x with
    | Constant k _ _ => cases k with
      | none => exact rule_non
      | _ => exact (Bool.false_ne_true h).elim
    | _ => exact (Bool.false_ne_true h).elim
  | .bl b, G, X, W, m, n, sc, N, x, h, c, tk => by
    cases x with
    | Constant k _ _ => cases k with
      | bool d =>
        have : b = d := eq_of_beq h
        subst this
        exact rule_bl
      | _ => exact (Bool.false_ne_true h).elim
    | _ => exact (Bool.false_ne_true h).elim
  | .int i, G, X, W, m, n, sc, N, x, h, c, tk => by
    cases x with
    | Constant k _ _ => cases k with
      | int j =>
        have : i = j := eq_of_beq h
        subst this
        exact rule_int
      | _ => exact (Bool.false_ne_true h).elim
    | _ => exact (Bool.false_ne_true h).elim
  | .str s, G, X, W, m, n, sc, N, x, h, c, tk => by
    cases x with
    | Constant k _ _ => cases k with
      | str y =>
        have : s = y.cps.toList := eq_of_beq h
        subst this
        exact rule_str
      | _ => exact (Bool.false_ne_true h).elim
    | _ => exact (Bool.false_ne_true h).elim
  | .gfn f, G, X, W, m, n, sc, N, x, h, c, tk => by
    cases x with
    | Name y p =>
      have h' : (os f == y && gloB sc y && dbgB y && fnB G.T f) = true := h
      simp only [Bool.and_eq_true] at h'
      obtain ⟨⟨⟨h1, h2⟩, h3⟩, h4⟩ := h'
      cases os_eq h1
      exact rule_gfn c (by rw [h2, h3, h4]; rfl)
    | _ => exact (Bool.false_ne_true h).elim
  | .gc f d, G, X, W, m, n, sc, N, x, h, c, tk => by
    cases x with
    | Name y p =>
      have h' : (os f == y && gloB sc y && dbgB y && G.T.gcs.any fun p => p.1 == f && sameD p.2 d) = true := h
      simp only [Bool.and_eq_true] at h'
      obtain ⟨⟨⟨h1, h2⟩, h3⟩, h4⟩ := h'
      cases os_eq h1
      exact rule_gc c (by rw [h2, h3]; exact h4)
    | _ => exact (Bool.false_ne_true h).elim
  | .ty t, G, X, W, m, n, sc, N, x, h, c, tk => by
    cases x with
    | Name y p =>
      have h' : (os t == y && gloB sc y && dbgB y && tyNames.contains t && G.T.blts.contains t) = true := h
      simp only [Bool.and_eq_true] at h'
      obtain ⟨⟨⟨⟨h1, h2⟩, h3⟩, h4⟩, h5⟩ := h'
      cases os_eq h1
      exact rule_ty c (by rw [h2, h3, h4, h5]; rfl)
    | _ => exact (Bool.false_ne_true h).elim
  | .tup es, G, X, W, m, n, sc, N, x, h, c, tk => by
    cases x with
    | Tuple xs _ _ =>
      have h' : (decide (es.length ≤ 1000) && chkL G.T es m sc N xs) = true := h
      rw [Bool.and_eq_true] at h'
      exact rule_tup (of_decide_eq_true h'.1) (sL es h'.2 c tk).pa
    | _ => exact (Bool.false_ne_true h).elim
  | .lst es, G, X, W, m, n, sc, N, x, h, c, tk => by
    cases x with
    | List xs _ =>
      have h' : (decide (es.length ≤ 1000) && chkL G.T es m sc N xs) = true := h
      rw [Bool.and_eq_true] at h'
      exact rule_lst (of_decide_eq_true h'.1) (sL es h'.2 c tk).pa
    | _ => exact (Bool.false_ne_true h).elim
  | .bin o a b, G, X, W, m, n, sc, N, x, h, c, tk => by
    cases x with
    | BinOp y op z p =>
      have h' : (boB o op && chkE G.T a m sc N y && chkE G.T b m sc N z) = true := h
      simp only [Bool.and_eq_true] at h'
      exact rule_bin h'.1.1 (sE a h'.1.2 c tk) (sE b h'.2 c tk)
    | _ => exact (Bool.false_ne_true h).elim
  | .neg a, G, X, W, m, n, sc, N, x, h, c, tk => by
    cases x with
    | UnaryOp op y p => cases op with
      | USub => exact rule_neg (sE a h c tk)
      | _ => exact (Bool.false_ne_true h).elim
    | _ => exact (Bool.false_ne_true h).elim
  | .cmp o a b, G, X, W, m, n, sc, N, x, h, c, tk => by
    cases x with
    | Compare y ops zs p =>
      match ops, zs, h with
      | [op], [z], h =>
        have h' : (coB o op && plainB z && chkE G.T a m sc N y && chkE G.T b m sc N z) = true := h
        simp only [Bool.and_eq_true] at h'
        exact rule_cmp c h'.1.1.1 h'.1.1.2 (sE a h'.1.2 c tk) (sE b h'.2 c tk)
      | [], _, h => exact (Bool.false_ne_true h).elim
      | _ :: _ :: _, _, h => exact (Bool.false_ne_true h).elim
      | [_], [], h => exact (Bool.false_ne_true h).elim
      | [_], _ :: _ :: _, h => exact (Bool.false_ne_true h).elim
    | _ => exact (Bool.false_ne_true h).elim
  | .chain o o' a b d, G, X, W, m, n, sc, N, x, h, c, tk => by
    cases x with
    | Compare y ops zs p =>
      match ops, zs, h with
      | [op, op'], [z, z'], h =>
        have h' : (coB o op && coB o' op' && plainB z && plainB z' && chkE G.T a m sc N y && chkE G.T b m sc N z && chkE G.T d m sc N z') = true := h
        simp only [Bool.and_eq_true] at h'
        obtain ⟨⟨⟨⟨⟨⟨h1, h2⟩, h3⟩, h4⟩, h5⟩, h6⟩, h7⟩ := h'
        exact rule_chain c h1 h2 h4 (sE a h5 c tk) (sE b h6 c tk) (sE d h7 c tk)
      | [], _, h => exact (Bool.false_ne_true h).elim
      | [_], _, h => exact (Bool.false_ne_true h).elim
      | _ :: _ :: _ :: _, _, h => exact (Bool.false_ne_true h).elim
      | [_, _], [], h => exact (Bool.false_ne_true h).elim
      | [_, _], [_], h => exact (Bool.false_ne_true h).elim
      | [_, _], _ :: _ :: _ :: _, h => exact (Bool.false_ne_true h).elim
    | _ => exact (Bool.false_ne_true h).elim
  | .not a, G, X, W, m, n, sc, N, x, h, c, tk => by
    cases x with
    | UnaryOp op y p => cases op with
      | Not => exact rule_not (sE a h c tk)
      | _ => exact (Bool.false_ne_true h).elim
    | _ => exact (Bool.false_ne_true h).elim
  | .and a b, G, X, W, m, n, sc, N, x, h, c, tk => by
    cases x with
    | BoolOp op vs p => cases op with
      | And =>
        match vs, h with
        | [y, z], h =>
          have h' : (chkE G.T a m sc N y && chkE G.T b m sc N z) = true := h
          rw [Bool.and_eq_true] at h'
          exact rule_and (sE a h'.1 c tk) (pe_one (sE b h'.2 c tk))
        | y :: z :: u :: r, h =>
          have h' : (chkE G.T a m sc N y && chkE G.T b m sc N (.BoolOp .And (z :: u :: r) p)) = true := h
          rw [Bool.and_eq_true] at h'
          exact rule_and (sE a h'.1 c tk) (sE b h'.2 c tk)
        | [], h => exact (Bool.false_ne_true h).elim
        | [_], h => exact (Bool.false_ne_true h).elim
      | _ => exact (Bool.false_ne_true h).elim
    | _ => exact (Bool.false_ne_true h).elim
  | .or a b, G, X, W, m, n, sc, N, x, h, c, tk => by
    cases x with
    | BoolOp op vs p => cases op with
      | Or =>
        match vs, h with
        | [y, z], h =>
          have h' : (chkE G.T a m sc N y && chkE G.T b m sc N z) = true := h
          rw [Bool.and_eq_true] at h'
          exact rule_or (sE a h'.1 c tk) (pe_one (sE b h'.2 c tk))
        | y :: z :: u :: r, h =>
          have h' : (chkE G.T a m sc N y && chkE G.T b m sc N (.BoolOp .Or (z :: u :: r) p)) = true := h
          rw [Bool.and_eq_true] at h'
          exact rule_or (sE a h'.1 c tk) (sE b h'.2 c tk)
        | [], h => exact (Bool.false_ne_true h).elim
        | [_], h => exact (Bool.false_ne_true h).elim
      | _ => exact (Bool.false_ne_true h).elim
    | _ => exact (Bool.false_ne_true h).elim
  | .ite t a b, G, X, W, m, n, sc, N, x, h, c, tk => by
    cases x with
    | IfExp u y z p =>
      have h' : (chkE G.T t m sc N u && chkE G.T a m sc N y && chkE G.T b m sc N z) = true := h
      simp only [Bool.and_eq_true] at h'
      exact rule_ite (sT t h'.1.1 c tk).1 (sE a h'.1.2 c tk) (sE b h'.2 c tk)
    | _ => exact (Bool.false_ne_true h).elim
  | .idx a i, G, X, W, m, n, sc, N, x, h, c, tk => by
    cases x with
    | Subscript y z p =>
      have h' : (plainB z && chkE G.T a m sc N y && chkE G.T i m sc N z) = true := h
      simp only [Bool.and_eq_true] at h'
      exact rule_idx h'.1.1 (sE a h'.1.2 c tk) (sE i h'.2 c tk)
    | _ => exact (Bool.false_ne_true h).elim
  | .slc a lo hi, G, X, W, m, n, sc, N, x, h, c, tk => by
    cases x with
    | Subscript y z p =>
      cases z with
      | Slice l u st q =>
        cases st with
        | none =>
          have h' : (chkE G.T a m sc N y && chkO G.T lo m sc N l && chkO G.T hi m sc N u) = true := h
          simp only [Bool.and_eq_true] at h'
          exact rule_slc (sE a h'.1.1 c tk) (sO lo h'.1.2 c tk) (sO hi h'.2 c tk)
        | some _ => exact (Bool.false_ne_true h).elim
      | _ => exact (Bool.false_ne_true h).elim
    | _ => exact (Bool.false_ne_true h).elim
  | .fld a f, G, X, W, m, n, sc, N, x, h, c, tk => by cases x <;> exact (Bool.false_ne_true h).elim
  | .efld i f, G, X, W, m, n, sc, N, x, h, c, tk => by
    cases x with
    | Attribute y g p =>
      cases y with
      | Name y q =>
        have h' : (os f == g && atB N i y && visB sc y && dbgB y) = true := h
        simp only [Bool.and_eq_true] at h'
        obtain ⟨⟨⟨h1, h2⟩, h3⟩, h4⟩ := h'
        cases os_eq h1
        exact rule_efld c (by rw [h2, h3, h4]; rfl)
      | _ => exact (Bool.false_ne_true h).elim
    | _ => exact (Bool.false_ne_true h).elim
  | .call f es kws dfl, G, X, W, m, n, sc, N, x, h, c, tk => by
    cases x with
    | Call g xs ks p =>
      cases g with
      | Name y q =>
        have h' : (os f == y && gloB sc y && dbgB y && m.cm && kwsB ks && strB kws (kwN ks) && chkA G.T es m sc N (xs ++ ks.map (·.value)) &&
          (match G.T.fns.lookup f with
            | some F => decide (es.length + dfl.length = F.ps.length) && sameDs dfl (F.dfl.drop (F.dfl.length - dfl.length)) && decide (dfl.length ≤ F.dfl.length) && kws == (F.ps.take es.length).drop (es.length - kws.length) && decide (kws.length ≤ es.length) && (kws.isEmpty || es.all isPl)
            | none => false)) = true := h
        simp only [Bool.and_eq_true] at h'
        obtain ⟨⟨⟨⟨⟨⟨⟨h1, h2⟩, h3⟩, h4⟩, h5⟩, h6⟩, h7⟩, h8⟩ := h'
        cases os_eq h1
        obtain ⟨paa, hlen, hpl, hpe⟩ := sA es h7 c tk
        cases hF : G.T.fns.lookup f with
        | none => rw [hF] at h8; cases h8
        | some F =>
          rw [hF] at h8
          simp only [Bool.and_eq_true] at h8
          obtain ⟨⟨⟨⟨⟨g1, g2⟩, g3⟩, g4⟩, g5⟩, g6⟩ := h8
          cases ks with
          | nil =>
            have hk : kws = [] := by
              have := strB_eq h6
              cases kws with
              | nil => rfl
              | cons _ _ => cases this
            subst hk
            simp only [List.map_nil, List.append_nil] at hlen hpl paa
            exact rule_call c h4 tk (by rw [h2, h3]; rfl) hF (of_decide_eq_true g1) (sameDs_eq g2) (of_decide_eq_true g3) hpl rfl hlen paa
          | cons k ks =>
            have hne : kws.isEmpty = false := by
              have := strB_eq h6
              cases kws with
              | nil => have e := congrArg List.length this; rw [(kws_all (pos := p) (env := X.env) h5).2.2.2] at e; cases e
              | cons _ _ => rfl
            have hall : es.all isPl = true := by
              rw [hne] at g6
              exact g6
            exact rule_callk c h4 tk (by rw [h2, h3]; rfl) hF (of_decide_eq_true g1) (sameDs_eq g2) (of_decide_eq_true g3) h5 h6 (eq_of_beq g4) (of_decide_eq_true g5) hall (hpe hall)
      | _ => exact (Bool.false_ne_true h).elim
    | _ => exact (Bool.false_ne_true h).elim
  | .cloc i es, G, X, W, m, n, sc, N, x, h, c, tk => by
    cases x with
    | Call g xs ks p =>
      cases g with
      | Name y q =>
        cases ks with
        | nil =>
          have h' : (atB N i y && visB sc y && dbgB y && m.cm && chkA G.T es m sc N xs) = true := h
          simp only [Bool.and_eq_true] at h'
          obtain ⟨⟨⟨⟨h1, h2⟩, h3⟩, h4⟩, h5⟩ := h'
          obtain ⟨paa, hlen, hpl, _⟩ := sA es h5 c tk
          exact rule_cloc c h4 tk (by rw [h1, h2, h3]; rfl) hpl rfl hlen paa
        | cons _ _ => exact (Bool.false_ne_true h).elim
      | _ => exact (Bool.false_ne_true h).elim
    | _ => exact (Bool.false_ne_true h).elim
  | .blt b es, G, X, W, m, n, sc, N, x, h, c, tk => by
    cases x with
    | Call g xs ks p =>
      cases g with
      | Name y q =>
        cases ks with
        | nil =>
          have h' : (os (biN b) == y && gloB sc y && dbgB y && G.T.blts.contains (biN b) && calmB b m && !xs.isEmpty && chkL G.T es m sc N xs) = true := h
          simp only [Bool.and_eq_true] at h'
          obtain ⟨⟨⟨⟨⟨⟨h1, h2⟩, h3⟩, h4⟩, h5⟩, h6⟩, h7⟩ := h'
          cases os_eq h1
          have hpe := sL es h7 c tk
          cases xs with
          | nil => cases h6
          | cons e1 er =>
            have hl := hpe.len
            have hpa := hpe.pa
            rw [← hl] at hpa
            exact rule_blt c (by rw [h2, h3, h4]; rfl) h5 hpe.plain hpa
        | cons _ _ => exact (Bool.false_ne_true h).elim
      | _ => exact (Bool.false_ne_true h).elim
    | _ => exact (Bool.false_ne_true h).elim
  | .meth a t es, G, X, W, m, n, sc, N, x, h, c, tk => by
    cases x with
    | Call g xs ks p =>
      cases g with
      | Attribute y g q =>
        cases ks with
        | nil =>
          have h' : (mtOk t && os (mtN t) == g && baseB y && q.endLine == p.line && decide (xs.length < 20) && !xs.isEmpty && chkE G.T a m sc N y && chkL G.T es m sc N xs) = true := h
          simp only [Bool.and_eq_true] at h'
          obtain ⟨⟨⟨⟨⟨⟨⟨h0, h1⟩, h2⟩, h3⟩, h4⟩, h5⟩, h6⟩, h7⟩ := h'
          cases os_eq h1
          have hpe := sL es h7 c tk
          cases xs with
          | nil => cases h5
          | cons e1 er =>
            have hl := hpe.len
            have hpa := hpe.pa
            rw [← hl] at hpa
            have ho := sE a h6 c tk (W := W)
            cases t with
            | append => exact rule_append h2 h3 (of_decide_eq_true h4) hpe.plain ho hpa
            | join => exact rule_join h2 h3 (of_decide_eq_true h4) hpe.plain ho hpa
            | _ => cases h0
        | cons _ _ => exact (Bool.false_ne_true h).elim
      | _ => exact (Bool.false_ne_true h).elim
    | _ => exact (Bool.false_ne_true h).elim
  | .comp elt tg it ifs own, G, X, W, m, n, sc, N, x, h, c, tk => by
    cases x with
    | ListComp y gens scope p =>
      match gens, h with
      | [⟨t, i, is, ka⟩], h =>
        have h' : (decide (ka = 0) && m.cm && blkC (N.map os) sc scope (own.map fun k => ((N.map os).getD k Str.empty, k)) && chkI G.T it m sc N i && tgOk it tg && (tgIx tg).all (fun i => own.contains i) && chkT scope N tg t && chkL G.T ifs ⟨m.cm, false⟩ (relS scope sc) N is && decide (is.length ≤ 1) && chkE G.T elt ⟨m.cm, false⟩ (relS scope sc) N y) = true := h
        simp only [Bool.and_eq_true] at h'
        obtain ⟨⟨⟨⟨⟨⟨⟨⟨⟨h0, h1⟩, h2⟩, h3⟩, h4⟩, h5⟩, h6⟩, h7⟩, h8⟩, h9⟩ := h'
        cases of_decide_eq_true h0
        have hil : ifs.length ≤ 1 := by
          have := chkL_len h7
          rw [this]
          exact of_decide_eq_true h8
        refine rule_comp c h1 h2 hil (fun i hi => List.contains_iff_mem.mp (List.all_eq_true.mp h5 i hi)) (sI it h3 h4 h6 c tk) h6 (folded_of h3) (fun X' c' e1 e2 e3 e4 e5 => ?_) (fun X' c' e1 e2 e3 e4 e5 => ?_)
        · rw [← cvx_eq e1 e2 e3 e4 e5]
          exact sTs ifs hil (G := G.in) (W := W0) h7 c' takes_w0
        · rw [← cvx_eq e1 e2 e3 e4 e5]
          exact sE elt (G := G.in) h9 c' takes_w0
      | [], h => exact (Bool.false_ne_true h).elim
      | ⟨_, _, _, _⟩ :: _ :: _, h => exact (Bool.false_ne_true h).elim
    | _ => exact (Bool.false_ne_true h).elim
  | .lam .., G, X, W, m, n, sc, N, x, h, c, tk => by cases x <;> exact (Bool.false_ne_true h).elim
  | .av i, G, X, W, m, n, sc, N, x, h, c, tk => by cases x <;> exact (Bool.false_ne_true h).elim
  | .ival a, G, X, W, m, n, sc, N, x, h, c, tk => by cases x <;> exact (Bool.false_ne_true h).elim
  | .irng es, G, X, W, m, n, sc, N, x, h, c, tk => by cases x <;> exact (Bool.false_ne_true h).elim
  | .ienum e, G, X, W, m, n, sc, N, x, h, c, tk => by cases x <;> exact (Bool.false_ne_true h).elim
  | .izip es, G, X, W, m, n, sc, N, x, h, c, tk => by cases x <;> exact (Bool.false_ne_true h).elim
  | .irev e, G, X, W, m, n, sc, N, x, h, c, tk => by cases x <;> exact (Bool.false_ne_true h).elim
termination_by a => (sizeOf a, 0)
theorem sT : ∀ (a : Ex) {G : GT} {X : Cx} {W : WX} {m : Md} {n : Nat} {sc : Scope} {N : List String} {x : Expr}, chkE G.T a m sc N x = true → CxOk G X m n sc N → Takes X W →
    PT X x (tT G X W (wpE (CVX G X n) a)) ∧ ∀ op vs p, x = .BoolOp op vs p → PW X x (tT G X W (wpE (CVX G X n) a))
  | .cmp o a b, G, X, W, m, n, sc, N, x, h, c, tk => by
    cases x with
    | Compare y ops zs p =>
      match ops, zs, h with
      | [op], [z], h =>
        have h' : (coB o op && plainB z && chkE G.T a m sc N y && chkE G.T b m sc N z) = true := h
        simp only [Bool.and_eq_true] at h'
        exact ⟨test_cmp c h'.1.1.1 h'.1.1.2 (sE a h'.1.2 c tk) (sE b h'.2 c tk), fun op vs p z => by cases z⟩
      | [], _, h => exact (Bool.false_ne_true h).elim
      | _ :: _ :: _, _, h => exact (Bool.false_ne_true h).elim
      | [_], [], h => exact (Bool.false_ne_true h).elim
      | [_], _ :: _ :: _, h => exact (Bool.false_ne_true h).elim
    | _ => exact (Bool.false_ne_true h).elim
  | .chain o o' a b d, G, X, W, m, n, sc, N, x, h, c, tk => by
    cases x with
    | Compare y ops zs p =>
      match ops, zs, h with
      | [op, op'], [z, z'], h =>
        have h' : (coB o op && coB o' op' && plainB z && plainB z' && chkE G.T a m sc N y && chkE G.T b m sc N z && chkE G.T d m sc N z') = true := h
        simp only [Bool.and_eq_true] at h'
        obtain ⟨⟨⟨⟨⟨⟨h1, h2⟩, h3⟩, h4⟩, h5⟩, h6⟩, h7⟩ := h'
        exact ⟨test_chain c h1 h2 h4 (sE a h5 c tk) (sE b h6 c tk) (sE d h7 c tk), fun op vs p z => by cases z⟩
      | [], _, h => exact (Bool.false_ne_true h).elim
      | [_], _, h => exact (Bool.false_ne_true h).elim
      | _ :: _ :: _ :: _, _, h => exact (Bool.false_ne_true h).elim
      | [_, _], [], h => exact (Bool.false_ne_true h).elim
      | [_, _], [_], h => exact (Bool.false_ne_true h).elim
      | [_, _], _ :: _ :: _ :: _, h => exact (Bool.false_ne_true h).elim
    | _ => exact (Bool.false_ne_true h).elim
  | .not a, G, X, W, m, n, sc, N, x, h, c, tk => by
    cases x with
    | UnaryOp op y p => cases op with
      | Not => exact ⟨test_not (sT a h c tk).1, fun op vs p z => by cases z⟩
      | _ => exact (Bool.false_ne_true h).elim
    | _ => exact (Bool.false_ne_true h).elim
  | .and a b, G, X, W, m, n, sc, N, x, h, c, tk => by
    cases x with
    | BoolOp op vs p => cases op with
      | And =>
        match vs, h with
        | [y, z], h =>
          have h' : (chkE G.T a m sc N y && chkE G.T b m sc N z) = true := h
          rw [Bool.and_eq_true] at h'
          have q := test_and1 (p := p) (sT a h'.1 c tk (W := W)).1 (sT b h'.2 c tk).1
          exact ⟨q.pt, fun _ _ _ _ => q⟩
        | y :: z :: u :: r, h =>
          have h' : (chkE G.T a m sc N y && chkE G.T b m sc N (.BoolOp .And (z :: u :: r) p)) = true := h
          rw [Bool.and_eq_true] at h'
          have q := test_and (sT a h'.1 c tk (W := W)).1 ((sT b h'.2 c tk).2 _ _ _ rfl)
          exact ⟨q.pt, fun _ _ _ _ => q⟩
        | [], h => exact (Bool.false_ne_true h).elim
        | [_], h => exact (Bool.false_ne_true h).elim
      | _ => exact (Bool.false_ne_true h).elim
    | _ => exact (Bool.false_ne_true h).elim
  | .or a b, G, X, W, m, n, sc, N, x, h, c, tk => by
    cases x with
    | BoolOp op vs p => cases op with
      | Or =>
        match vs, h with
        | [y, z], h =>
          have h' : (chkE G.T a m sc N y && chkE G.T b m sc N z) = true := h
          rw [Bool.and_eq_true] at h'
          have q := test_or1 (p := p) (sT a h'.1 c tk (W := W)).1 (sT b h'.2 c tk).1
          exact ⟨q.pt, fun _ _ _ _ => q⟩
        | y :: z :: u :: r, h =>
          have h' : (chkE G.T a m sc N y && chkE G.T b m sc N (.BoolOp .Or (z :: u :: r) p)) = true := h
          rw [Bool.and_eq_true] at h'
          have q := test_or (sT a h'.1 c tk (W := W)).1 ((sT b h'.2 c tk).2 _ _ _ rfl)
          exact ⟨q.pt, fun _ _ _ _ => q⟩
        | [], h => exact (Bool.false_ne_true h).elim
        | [_], h => exact (Bool.false_ne_true h).elim
      | _ => exact (Bool.false_ne_true h).elim
    | _ => exact (Bool.false_ne_true h).elim
  | .ite t a b, G, X, W, m, n, sc, N, x, h, c, tk => by
    cases x with
    | IfExp u y z p =>
      have h' : (chkE G.T t m sc N u && chkE G.T a m sc N y && chkE G.T b m sc N z) = true := h
      simp only [Bool.and_eq_true] at h'
      exact ⟨test_ite (sT t h'.1.1 c tk).1 (sT a h'.1.2 c tk).1 (sT b h'.2 c tk).1, fun op vs p z => by cases z⟩
    | _ => exact (Bool.false_ne_true h).elim
  | .var i, G, X, W, m, n, sc, N, x, h, c, tk => by
    have e := sE (.var i) h c tk (W := W)
    cases x <;> first | exact (Bool.false_ne_true h).elim | exact ⟨test_val e (fun _ => rfl), fun op vs p z => by cases z⟩
  | .non, G, X, W, m, n, sc, N, x, h, c, tk => by
    have e := sE (.non) h c tk (W := W)
    cases x <;> first | exact (Bool.false_ne_true h).elim | exact ⟨test_val e (fun _ => rfl), fun op vs p z => by cases z⟩
  | .bl b, G, X, W, m, n, sc, N, x, h, c, tk => by
    have e := sE (.bl b) h c tk (W := W)
    cases x <;> first | exact (Bool.false_ne_true h).elim | exact ⟨test_val e (fun _ => rfl), fun op vs p z => by cases z⟩
  | .int b, G, X, W, m, n, sc, N, x, h, c, tk => by
    have e := sE (.int b) h c tk (W := W)
    cases x <;> first | exact (Bool.false_ne_true h).elim | exact ⟨test_val e (fun _ => rfl), fun op vs p z => by cases z⟩
  | .str s, G, X, W, m, n, sc, N, x, h, c, tk => by
    have e := sE (.str s) h c tk (W := W)
    cases x <;> first | exact (Bool.false_ne_true h).elim | exact ⟨test_val e (fun _ => rfl), fun op vs p z => by cases z⟩
  | .gfn f, G, X, W, m, n, sc, N, x, h, c, tk => by
    have e := sE (.gfn f) h c tk (W := W)
    cases x <;> first | exact (Bool.false_ne_true h).elim | exact ⟨test_val e (fun _ => rfl), fun op vs p z => by cases z⟩
  | .gc f d, G, X, W, m, n, sc, N, x, h, c, tk => by
    have e := sE (.gc f d) h c tk (W := W)
    cases x <;> first | exact (Bool.false_ne_true h).elim | exact ⟨test_val e (fun _ => rfl), fun op vs p z => by cases z⟩
  | .ty t, G, X, W, m, n, sc, N, x, h, c, tk => by
    have e := sE (.ty t) h c tk (W := W)
    cases x <;> first | exact (Bool.false_ne_true h).elim | exact ⟨test_val e (fun _ => rfl), fun op vs p z => by cases z⟩
  | .tup es, G, X, W, m, n, sc, N, x, h, c, tk => by
    have e := sE (.tup es) h c tk (W := W)
    cases x <;> first | exact (Bool.false_ne_true h).elim | exact ⟨test_val e (fun _ => rfl), fun op vs p z => by cases z⟩
  | .lst es, G, X, W, m, n, sc, N, x, h, c, tk => by
    have e := sE (.lst es) h c tk (W := W)
    cases x <;> first | exact (Bool.false_ne_true h).elim | exact ⟨test_val e (fun _ => rfl), fun op vs p z => by cases z⟩
  | .bin o a b, G, X, W, m, n, sc, N, x, h, c, tk => by
    have e := sE (.bin o a b) h c tk (W := W)
    cases x <;> first | exact (Bool.false_ne_true h).elim | exact ⟨test_val e (fun _ => rfl), fun op vs p z => by cases z⟩
  | .idx a i, G, X, W, m, n, sc, N, x, h, c, tk => by
    have e := sE (.idx a i) h c tk (W := W)
    cases x <;> first | exact (Bool.false_ne_true h).elim | exact ⟨test_val e (fun _ => rfl), fun op vs p z => by cases z⟩
  | .slc a lo hi, G, X, W, m, n, sc, N, x, h, c, tk => by
    have e := sE (.slc a lo hi) h c tk (W := W)
    cases x <;> first | exact (Bool.false_ne_true h).elim | exact ⟨test_val e (fun _ => rfl), fun op vs p z => by cases z⟩
  | .fld a f, G, X, W, m, n, sc, N, x, h, c, tk => by
    have e := sE (.fld a f) h c tk (W := W)
    cases x <;> first | exact (Bool.false_ne_true h).elim | exact ⟨test_val e (fun _ => rfl), fun op vs p z => by cases z⟩
  | .efld i f, G, X, W, m, n, sc, N, x, h, c, tk => by
    have e := sE (.efld i f) h c tk (W := W)
    cases x <;> first | exact (Bool.false_ne_true h).elim | exact ⟨test_val e (fun _ => rfl), fun op vs p z => by cases z⟩
  | .call f es kws dfl, G, X, W, m, n, sc, N, x, h, c, tk => by
    have e := sE (.call f es kws dfl) h c tk (W := W)
    cases x <;> first | exact (Bool.false_ne_true h).elim | exact ⟨test_val e (fun _ => rfl), fun op vs p z => by cases z⟩
  | .cloc i es, G, X, W, m, n, sc, N, x, h, c, tk => by
    have e := sE (.cloc i es) h c tk (W := W)
    cases x <;> first | exact (Bool.false_ne_true h).elim | exact ⟨test_val e (fun _ => rfl), fun op vs p z => by cases z⟩
  | .blt b es, G, X, W, m, n, sc, N, x, h, c, tk => by
    have e := sE (.blt b es) h c tk (W := W)
    cases x <;> first | exact (Bool.false_ne_true h).elim | exact ⟨test_val e (fun _ => rfl), fun op vs p z => by cases z⟩
  | .meth a t es, G, X, W, m, n, sc, N, x, h, c, tk => by
    have e := sE (.meth a t es) h c tk (W := W)
    cases x <;> first | exact (Bool.false_ne_true h).elim | exact ⟨test_val e (fun _ => rfl), fun op vs p z => by cases z⟩
  | .comp elt tg it ifs own, G, X, W, m, n, sc, N, x, h, c, tk => by
    have e := sE (.comp elt tg it ifs own) h c tk (W := W)
    cases x <;> first | exact (Bool.false_ne_true h).elim | exact ⟨test_val e (fun _ => rfl), fun op vs p z => by cases z⟩
  | .lam a1 a2 a3 a4 a5, G, X, W, m, n, sc, N, x, h, c, tk => by
    have e := sE (.lam a1 a2 a3 a4 a5) h c tk (W := W)
    cases x <;> first | exact (Bool.false_ne_true h).elim | exact ⟨test_val e (fun _ => rfl), fun op vs p z => by cases z⟩
  | .av i, G, X, W, m, n, sc, N, x, h, c, tk => by
    have e := sE (.av i) h c tk (W := W)
    cases x <;> first | exact (Bool.false_ne_true h).elim | exact ⟨test_val e (fun _ => rfl), fun op vs p z => by cases z⟩
  | .ival a, G, X, W, m, n, sc, N, x, h, c, tk => by
    have e := sE (.ival a) h c tk (W := W)
    cases x <;> first | exact (Bool.false_ne_true h).elim | exact ⟨test_val e (fun _ => rfl), fun op vs p z => by cases z⟩
  | .irng es, G, X, W, m, n, sc, N, x, h, c, tk => by
    have e := sE (.irng es) h c tk (W := W)
    cases x <;> first | exact (Bool.false_ne_true h).elim | exact ⟨test_val e (fun _ => rfl), fun op vs p z => by cases z⟩
  | .ienum a, G, X, W, m, n, sc, N, x, h, c, tk => by
    have e := sE (.ienum a) h c tk (W := W)
    cases x <;> first | exact (Bool.false_ne_true h).elim | exact ⟨test_val e (fun _ => rfl), fun op vs p z => by cases z⟩
  | .izip es, G, X, W, m, n, sc, N, x, h, c, tk => by
    have e := sE (.izip es) h c tk (W := W)
    cases x <;> first | exact (Bool.false_ne_true h).elim | exact ⟨test_val e (fun _ => rfl), fun op vs p z => by cases z⟩
  | .irev a, G, X, W, m, n, sc, N, x, h, c, tk => by
    have e := sE (.irev a) h c tk (W := W)
    cases x <;> first | exact (Bool.false_ne_true h).elim | exact ⟨test_val e (fun _ => rfl), fun op vs p z => by cases z⟩
  | .neg a, G, X, W, m, n, sc, N, x, h, c, tk => by
    have e := sE (.neg a) h c tk (W := W)
    cases x with
    | UnaryOp op y p => cases op <;> first | exact (Bool.false_ne_true h).elim | exact ⟨test_val e (fun _ => rfl), fun op vs p z => by cases z⟩
    | _ => exact (Bool.false_ne_true h).elim
termination_by a => (sizeOf a, 1)
theorem sTs : ∀ (es : List Ex), es.length ≤ 1 → ∀ {G : GT} {X : Cx} {W : WX} {m : Md} {n : Nat} {sc : Scope} {N : List String} {xs : List Expr}, chkL G.T es m sc N xs = true → CxOk G X m n sc N → Takes X W0 →
    PTs X xs (tIfs G X (CVX G X n) es)
  | [], _, G, X, W, m, n, sc, N, xs, h, c, tk => by
    cases xs with
    | nil => exact pts_nil
    | cons _ _ => exact (Bool.false_ne_true h).elim
  | [t], _, G, X, W, m, n, sc, N, xs, h, c, tk => by
    match xs, h with
    | [x], h =>
      have h' : (plainB x && chkE G.T t m sc N x && true) = true := h
      simp only [Bool.and_eq_true] at h'
      exact pts_one (sT t h'.1.2 c tk).1
    | [], h => exact (Bool.false_ne_true h).elim
    | x :: y :: r, h =>
      have h' : (plainB x && chkE G.T t m sc N x && false) = true := h
      rw [Bool.and_false] at h'
      cases h'
  | _ :: _ :: _, hl, G, X, W, m, n, sc, N, xs, h, c, tk => absurd hl (by simp)
termination_by es => (sizeOf es, 0)
theorem sL : ∀ (es : List Ex) {G : GT} {X : Cx} {W : WX} {m : Md} {n : Nat} {sc : Scope} {N : List String} {xs : List Expr}, chkL G.T es m sc N xs = true → CxOk G X m n sc N → Takes X W → PEs G X W (CVX G X n) xs es
  | [], G, X, W, m, n, sc, N, xs, h, c, tk => by
    cases xs with
    | nil => exact .nil
    | cons _ _ => exact (Bool.false_ne_true h).elim
  | a :: r, G, X, W, m, n, sc, N, xs, h, c, tk => by
    cases xs with
    | nil => exact (Bool.false_ne_true h).elim
    | cons x s =>
      have h' : (plainB x && chkE G.T a m sc N x && chkL G.T r m sc N s) = true := h
      simp only [Bool.and_eq_true] at h'
      exact .cons h'.1.1 (sE a h'.1.2 c tk) (sL r h'.2 c tk)
termination_by es => (sizeOf es, 0)
theorem sO : ∀ (es : List Ex) {G : GT} {X : Cx} {W : WX} {m : Md} {n : Nat} {sc : Scope} {N : List String} {x : Option Expr}, chkO G.T es m sc N x = true → CxOk G X m n sc N → Takes X W → PO X x (tO G X W (wpL (CVX G X n) es))
  | [], G, X, W, m, n, sc, N, x, h, c, tk => by
    cases x with
    | none => exact rule_onone
    | some _ => exact (Bool.false_ne_true h).elim
  | [a], G, X, W, m, n, sc, N, x, h, c, tk => by
    cases x with
    | none => exact (Bool.false_ne_true h).elim
    | some y => exact rule_osome (sE a h c tk)
  | _ :: _ :: _, G, X, W, m, n, sc, N, x, h, c, tk => by
    cases x <;> exact (Bool.false_ne_true h).elim
termination_by es => (sizeOf es, 0)
theorem sA : ∀ (es : List Ex) {G : GT} {X : Cx} {W : WX} {m : Md} {n : Nat} {sc : Scope} {N : List String} {xs : List Expr}, chkA G.T es m sc N xs = true → CxOk G X m n sc N → Takes X W →
    PAA G X W (wpA (CVX G X n) es) es.length xs ∧ xs.length = es.length ∧ (∀ a ∈ xs, plainB a = true) ∧ (es.all isPl = true → PEs G X W (CVX G X n) xs es)
  | [], G, X, W, m, n, sc, N, xs, h, c, tk => by
    cases xs with
    | nil => exact ⟨rule_anil, rfl, (fun a ha => by cases ha), fun _ => .nil⟩
    | cons _ _ => exact (Bool.false_ne_true h).elim
  | .lam ps fr b caps dfl :: r, G, X, W, m, n, sc, N, xs, h, c, tk => by
    cases xs with
    | nil => exact (Bool.false_ne_true h).elim
    | cons x s =>
      cases x with
      | Lambda a x scope p =>
        have h' : (m.lm && argsB a ps dfl.length && decide (dfl.length ≤ 1) && chkL G.T dfl m sc N a.defaults && chkE G.T b ⟨true, false⟩ scope (ps ++ fr) x &&
          decide (scope.kind = .function) && !scope.isCoroutine && !scope.isGenerator && decide (fr.length = caps.length) &&
          decide (ps.map os ++ fr.map os).Nodup &&
          (ps.all fun p => decide (scope.names.lookup (os p) = some .local)) && (fr.all fun p => decide (scope.names.lookup (os p) = some .free)) &&
          (scope.names.all fun y => match y.2 with
            | .local => ps.any fun p => os p == y.1
            | .free => (fr.any fun p => os p == y.1) && (match sc.names.lookup y.1 with | some .cell => true | some .free => true | _ => false)
            | .cell => false
            | _ => true) &&
          (fr.zip caps).all (fun p => atB N p.2 (os p.1)) && chkA G.T r m sc N s) = true := h
        simp only [Bool.and_eq_true] at h'
        obtain ⟨⟨⟨⟨⟨⟨⟨⟨⟨⟨⟨⟨⟨⟨h1, h2⟩, h3⟩, h4⟩, h5⟩, h6⟩, h7⟩, h8⟩, h9⟩, h10⟩, h11⟩, h12⟩, h13⟩, h14⟩, h15⟩ := h'
        have L : LamOk G.T sc N ps fr b caps dfl a x scope := lamok_of (m := m) (by
          simp only [Bool.and_eq_true]
          exact ⟨⟨⟨⟨⟨⟨⟨⟨⟨⟨h2, h5⟩, h6⟩, h7⟩, h8⟩, h9⟩, h10⟩, h11⟩, h12⟩, h13⟩, h14⟩)
        obtain ⟨q1, q2, q3, q4⟩ := sA r h15 c tk (W := W)
        have hd := sL dfl h4 c tk (W := W)
        have hd' : (dfl = [] ∧ a.defaults = []) ∨ ∃ d y, dfl = [d] ∧ a.defaults = [y] ∧ PE X y (tE G X W (wpE (CVX G X n) d)) := by
          generalize hz : a.defaults = ds at hd
          have hl := of_decide_eq_true h3
          cases hd with
          | nil => exact .inl ⟨rfl, rfl⟩
          | cons p hpe t =>
            cases t with
            | nil => exact .inr ⟨_, _, rfl, rfl, hpe⟩
            | cons _ _ _ => simp at hl
        refine ⟨rule_alam c h1 L hd' q1, congrArg (· + 1) q2, fun a ha => ?_, fun z => by cases z⟩
        rcases List.mem_cons.mp ha with rfl | ha
        · rfl
        · exact q3 a ha
      | _ => exact (Bool.false_ne_true h).elim
  | .av i :: r, G, X, W, m, n, sc, N, xs, h, c, tk => by
    cases xs with
    | nil => exact (Bool.false_ne_true h).elim
    | cons x s =>
      cases x with
      | Name y p =>
        have h' : (atB N i y && visB sc y && dbgB y && chkA G.T r m sc N s) = true := h
        rw [Bool.and_eq_true] at h'
        obtain ⟨q1, q2, q3, q4⟩ := sA r h'.2 c tk (W := W)
        refine ⟨rule_aav c h'.1 q1, congrArg (· + 1) q2, fun a ha => ?_, fun z => by cases z⟩
        rcases List.mem_cons.mp ha with rfl | ha
        · rfl
        · exact q3 a ha
      | _ => exact (Bool.false_ne_true h).elim
  | .var i :: r, G, X, W, m, n, sc, N, xs, h, c, tk => by
    cases xs with
    | nil => exact (Bool.false_ne_true h).elim
    | cons z0 s0 =>
      have h' : (plainB z0 && chkE G.T (.var i) m sc N z0 && chkA G.T r m sc N s0) = true := h
      simp only [Bool.and_eq_true] at h'
      exact sA_pl rfl h'.1.1 (sE (.var i) h'.1.2 c tk) (sA r h'.2 c tk)
  | .non :: r, G, X, W, m, n, sc, N, xs, h, c, tk => by
    cases xs with
    | nil => exact (Bool.false_ne_true h).elim
    | cons z0 s0 =>
      have h' : (plainB z0 && chkE G.T (.non) m sc N z0 && chkA G.T r m sc N s0) = true := h
      simp only [Bool.and_eq_true] at h'
      exact sA_pl rfl h'.1.1 (sE (.non) h'.1.2 c tk) (sA r h'.2 c tk)
  | .bl b :: r, G, X, W, m, n, sc, N, xs, h, c, tk => by
    cases xs with
    | nil => exact (Bool.false_ne_true h).elim
    | cons z0 s0 =>
      have h' : (plainB z0 && chkE G.T (.bl b) m sc N z0 && chkA G.T r m sc N s0) = true := h
      simp only [Bool.and_eq_true] at h'
      exact sA_pl rfl h'.1.1 (sE (.bl b) h'.1.2 c tk) (sA r h'.2 c tk)
  | .int b :: r, G, X, W, m, n, sc, N, xs, h, c, tk => by
    cases xs with
    | nil => exact (Bool.false_ne_true h).elim
    | cons z0 s0 =>
      have h' : (plainB z0 && chkE G.T (.int b) m sc N z0 && chkA G.T r m sc N s0) = true := h
      simp only [Bool.and_eq_true] at h'
      exact sA_pl rfl h'.1.1 (sE (.int b) h'.1.2 c tk) (sA r h'.2 c tk)
  | .str s :: r, G, X, W, m, n, sc, N, xs, h, c, tk => by
    cases xs with
    | nil => exact (Bool.false_ne_true h).elim
    | cons z0 s0 =>
      have h' : (plainB z0 && chkE G.T (.str s) m sc N z0 && chkA G.T r m sc N s0) = true := h
      simp only [Bool.and_eq_true] at h'
      exact sA_pl rfl h'.1.1 (sE (.str s) h'.1.2 c tk) (sA r h'.2 c tk)
  | .gfn f :: r, G, X, W, m, n, sc, N, xs, h, c, tk => by
    cases xs with
    | nil => exact (Bool.false_ne_true h).elim
    | cons z0 s0 =>
      have h' : (plainB z0 && chkE G.T (.gfn f) m sc N z0 && chkA G.T r m sc N s0) = true := h
      simp only [Bool.and_eq_true] at h'
      exact sA_pl rfl h'.1.1 (sE (.gfn f) h'.1.2 c tk) (sA r h'.2 c tk)
  | .gc f d :: r, G, X, W, m, n, sc, N, xs, h, c, tk => by
    cases xs with
    | nil => exact (Bool.false_ne_true h).elim
    | cons z0 s0 =>
      have h' : (plainB z0 && chkE G.T (.gc f d) m sc N z0 && chkA G.T r m sc N s0) = true := h
      simp only [Bool.and_eq_true] at h'
      exact sA_pl rfl h'.1.1 (sE (.gc f d) h'.1.2 c tk) (sA r h'.2 c tk)
  | .ty t :: r, G, X, W, m, n, sc, N, xs, h, c, tk => by
    cases xs with
    | nil => exact (Bool.false_ne_true h).elim
    | cons z0 s0 =>
      have h' : (plainB z0 && chkE G.T (.ty t) m sc N z0 && chkA G.T r m sc N s0) = true := h
      simp only [Bool.and_eq_true] at h'
      exact sA_pl rfl h'.1.1 (sE (.ty t) h'.1.2 c tk) (sA r h'.2 c tk)
  | .tup es :: r, G, X, W, m, n, sc, N, xs, h, c, tk => by
    cases xs with
    | nil => exact (Bool.false_ne_true h).elim
    | cons z0 s0 =>
      have h' : (plainB z0 && chkE G.T (.tup es) m sc N z0 && chkA G.T r m sc N s0) = true := h
      simp only [Bool.and_eq_true] at h'
      exact sA_pl rfl h'.1.1 (sE (.tup es) h'.1.2 c tk) (sA r h'.2 c tk)
  | .lst es :: r, G, X, W, m, n, sc, N, xs, h, c, tk => by
    cases xs with
    | nil => exact (Bool.false_ne_true h).elim
    | cons z0 s0 =>
      have h' : (plainB z0 && chkE G.T (.lst es) m sc N z0 && chkA G.T r m sc N s0) = true := h
      simp only [Bool.and_eq_true] at h'
      exact sA_pl rfl h'.1.1 (sE (.lst es) h'.1.2 c tk) (sA r h'.2 c tk)
  | .bin o a b :: r, G, X, W, m, n, sc, N, xs, h, c, tk => by
    cases xs with
    | nil => exact (Bool.false_ne_true h).elim
    | cons z0 s0 =>
      have h' : (plainB z0 && chkE G.T (.bin o a b) m sc N z0 && chkA G.T r m sc N s0) = true := h
      simp only [Bool.and_eq_true] at h'
      exact sA_pl rfl h'.1.1 (sE (.bin o a b) h'.1.2 c tk) (sA r h'.2 c tk)
  | .idx a i :: r, G, X, W, m, n, sc, N, xs, h, c, tk => by
    cases xs with
    | nil => exact (Bool.false_ne_true h).elim
    | cons z0 s0 =>
      have h' : (plainB z0 && chkE G.T (.idx a i) m sc N z0 && chkA G.T r m sc N s0) = true := h
      simp only [Bool.and_eq_true] at h'
      exact sA_pl rfl h'.1.1 (sE (.idx a i) h'.1.2 c tk) (sA r h'.2 c tk)
  | .slc a lo hi :: r, G, X, W, m, n, sc, N, xs, h, c, tk => by
    cases xs with
    | nil => exact (Bool.false_ne_true h).elim
    | cons z0 s0 =>
      have h' : (plainB z0 && chkE G.T (.slc a lo hi) m sc N z0 && chkA G.T r m sc N s0) = true := h
      simp only [Bool.and_eq_true] at h'
      exact sA_pl rfl h'.1.1 (sE (.slc a lo hi) h'.1.2 c tk) (sA r h'.2 c tk)
  | .fld a f :: r, G, X, W, m, n, sc, N, xs, h, c, tk => by
    cases xs with
    | nil => exact (Bool.false_ne_true h).elim
    | cons z0 s0 =>
      have h' : (plainB z0 && chkE G.T (.fld a f) m sc N z0 && chkA G.T r m sc N s0) = true := h
      simp only [Bool.and_eq_true] at h'
      exact sA_pl rfl h'.1.1 (sE (.fld a f) h'.1.2 c tk) (sA r h'.2 c tk)
  | .efld i f :: r, G, X, W, m, n, sc, N, xs, h, c, tk => by
    cases xs with
    | nil => exact (Bool.false_ne_true h).elim
    | cons z0 s0 =>
      have h' : (plainB z0 && chkE G.T (.efld i f) m sc N z0 && chkA G.T r m sc N s0) = true := h
      simp only [Bool.and_eq_true] at h'
      exact sA_pl rfl h'.1.1 (sE (.efld i f) h'.1.2 c tk) (sA r h'.2 c tk)
  | .call f es kws dfl :: r, G, X, W, m, n, sc, N, xs, h, c, tk => by
    cases xs with
    | nil => exact (Bool.false_ne_true h).elim
    | cons z0 s0 =>
      have h' : (plainB z0 && chkE G.T (.call f es kws dfl) m sc N z0 && chkA G.T r m sc N s0) = true := h
      simp only [Bool.and_eq_true] at h'
      exact sA_pl rfl h'.1.1 (sE (.call f es kws dfl) h'.1.2 c tk) (sA r h'.2 c tk)
  | .cloc i es :: r, G, X, W, m, n, sc, N, xs, h, c, tk => by
    cases xs with
    | nil => exact (Bool.false_ne_true h).elim
    | cons z0 s0 =>
      have h' : (plainB z0 && chkE G.T (.cloc i es) m sc N z0 && chkA G.T r m sc N s0) = true := h
      simp only [Bool.and_eq_true] at h'
      exact sA_pl rfl h'.1.1 (sE (.cloc i es) h'.1.2 c tk) (sA r h'.2 c tk)
  | .blt b es :: r, G, X, W, m, n, sc, N, xs, h, c, tk => by
    cases xs with
    | nil => exact (Bool.false_ne_true h).elim
    | cons z0 s0 =>
      have h' : (plainB z0 && chkE G.T (.blt b es) m sc N z0 && chkA G.T r m sc N s0) = true := h
      simp only [Bool.and_eq_true] at h'
      exact sA_pl rfl h'.1.1 (sE (.blt b es) h'.1.2 c tk) (sA r h'.2 c tk)
  | .meth a t es :: r, G, X, W, m, n, sc, N, xs, h, c, tk => by
    cases xs with
    | nil => exact (Bool.false_ne_true h).elim
    | cons z0 s0 =>
      have h' : (plainB z0 && chkE G.T (.meth a t es) m sc N z0 && chkA G.T r m sc N s0) = true := h
      simp only [Bool.and_eq_true] at h'
      exact sA_pl rfl h'.1.1 (sE (.meth a t es) h'.1.2 c tk) (sA r h'.2 c tk)
  | .comp elt tg it ifs own :: r, G, X, W, m, n, sc, N, xs, h, c, tk => by
    cases xs with
    | nil => exact (Bool.false_ne_true h).elim
    | cons z0 s0 =>
      have h' : (plainB z0 && chkE G.T (.comp elt tg it ifs own) m sc N z0 && chkA G.T r m sc N s0) = true := h
      simp only [Bool.and_eq_true] at h'
      exact sA_pl rfl h'.1.1 (sE (.comp elt tg it ifs own) h'.1.2 c tk) (sA r h'.2 c tk)
  | .ival a :: r, G, X, W, m, n, sc, N, xs, h, c, tk => by
    cases xs with
    | nil => exact (Bool.false_ne_true h).elim
    | cons z0 s0 =>
      have h' : (plainB z0 && chkE G.T (.ival a) m sc N z0 && chkA G.T r m sc N s0) = true := h
      simp only [Bool.and_eq_true] at h'
      exact sA_pl rfl h'.1.1 (sE (.ival a) h'.1.2 c tk) (sA r h'.2 c tk)
  | .irng es :: r, G, X, W, m, n, sc, N, xs, h, c, tk => by
    cases xs with
    | nil => exact (Bool.false_ne_true h).elim
    | cons z0 s0 =>
      have h' : (plainB z0 && chkE G.T (.irng es) m sc N z0 && chkA G.T r m sc N s0) = true := h
      simp only [Bool.and_eq_true] at h'
      exact sA_pl rfl h'.1.1 (sE (.irng es) h'.1.2 c tk) (sA r h'.2 c tk)
  | .ienum a :: r, G, X, W, m, n, sc, N, xs, h, c, tk => by
    cases xs with
    | nil => exact (Bool.false_ne_true h).elim
    | cons z0 s0 =>
      have h' : (plainB z0 && chkE G.T (.ienum a) m sc N z0 && chkA G.T r m sc N s0) = true := h
      simp only [Bool.and_eq_true] at h'
      exact sA_pl rfl h'.1.1 (sE (.ienum a) h'.1.2 c tk) (sA r h'.2 c tk)
  | .izip es :: r, G, X, W, m, n, sc, N, xs, h, c, tk => by
    cases xs with
    | nil => exact (Bool.false_ne_true h).elim
    | cons z0 s0 =>
      have h' : (plainB z0 && chkE G.T (.izip es) m sc N z0 && chkA G.T r m sc N s0) = true := h
      simp only [Bool.and_eq_true] at h'
      exact sA_pl rfl h'.1.1 (sE (.izip es) h'.1.2 c tk) (sA r h'.2 c tk)
  | .irev a :: r, G, X, W, m, n, sc, N, xs, h, c, tk => by
    cases xs with
    | nil => exact (Bool.false_ne_true h).elim
    | cons z0 s0 =>
      have h' : (plainB z0 && chkE G.T (.irev a) m sc N z0 && chkA G.T r m sc N s0) = true := h
      simp only [Bool.and_eq_true] at h'
      exact sA_pl rfl h'.1.1 (sE (.irev a) h'.1.2 c tk) (sA r h'.2 c tk)
  | .neg a :: r, G, X, W, m, n, sc, N, xs, h, c, tk => by
    cases xs with
    | nil => exact (Bool.false_ne_true h).elim
    | cons z0 s0 =>
      have h' : (plainB z0 && chkE G.T (.neg a) m sc N z0 && chkA G.T r m sc N s0) = true := h
      simp only [Bool.and_eq_true] at h'
      exact sA_pl rfl h'.1.1 (sE (.neg a) h'.1.2 c tk) (sA r h'.2 c tk)
  | .cmp o a b :: r, G, X, W, m, n, sc, N, xs, h, c, tk => by
    cases xs with
    | nil => exact (Bool.false_ne_true h).elim
    | cons z0 s0 =>
      have h' : (plainB z0 && chkE G.T (.cmp o a b) m sc N z0 && chkA G.T r m sc N s0) = true := h
      simp only [Bool.and_eq_true] at h'
      exact sA_pl rfl h'.1.1 (sE (.cmp o a b) h'.1.2 c tk) (sA r h'.2 c tk)
  | .chain o o' a b d :: r, G, X, W, m, n, sc, N, xs, h, c, tk => by
    cases xs with
    | nil => exact (Bool.false_ne_true h).elim
    | cons z0 s0 =>
      have h' : (plainB z0 && chkE G.T (.chain o o' a b d) m sc N z0 && chkA G.T r m sc N s0) = true := h
      simp only [Bool.and_eq_true] at h'
      exact sA_pl rfl h'.1.1 (sE (.chain o o' a b d) h'.1.2 c tk) (sA r h'.2 c tk)
  | .not a :: r, G, X, W, m, n, sc, N, xs, h, c, tk => by
    cases xs with
    | nil => exact (Bool.false_ne_true h).elim
    | cons z0 s0 =>
      have h' : (plainB z0 && chkE G.T (.not a) m sc N z0 && chkA G.T r m sc N s0) = true := h
      simp only [Bool.and_eq_true] at h'
      exact sA_pl rfl h'.1.1 (sE (.not a) h'.1.2 c tk) (sA r h'.2 c tk)
  | .and a b :: r, G, X, W, m, n, sc, N, xs, h, c, tk => by
    cases xs with
    | nil => exact (Bool.false_ne_true h).elim
    | cons z0 s0 =>
      have h' : (plainB z0 && chkE G.T (.and a b) m sc N z0 && chkA G.T r m sc N s0) = true := h
      simp only [Bool.and_eq_true] at h'
      exact sA_pl rfl h'.1.1 (sE (.and a b) h'.1.2 c tk) (sA r h'.2 c tk)
  | .or a b :: r, G, X, W, m, n, sc, N, xs, h, c, tk => by
    cases xs with
    | nil => exact (Bool.false_ne_true h).elim
    | cons z0 s0 =>
      have h' : (plainB z0 && chkE G.T (.or a b) m sc N z0 && chkA G.T r m sc N s0) = true := h
      simp only [Bool.and_eq_true] at h'
      exact sA_pl rfl h'.1.1 (sE (.or a b) h'.1.2 c tk) (sA r h'.2 c tk)
  | .ite t a b :: r, G, X, W, m, n, sc, N, xs, h, c, tk => by
    cases xs with
    | nil => exact (Bool.false_ne_true h).elim
    | cons z0 s0 =>
      have h' : (plainB z0 && chkE G.T (.ite t a b) m sc N z0 && chkA G.T r m sc N s0) = true := h
      simp only [Bool.and_eq_true] at h'
      exact sA_pl rfl h'.1.1 (sE (.ite t a b) h'.1.2 c tk) (sA r h'.2 c tk)
termination_by es => (sizeOf es, 0)
theorem sI : ∀ (it : Ex) {G : GT} {X : Cx} {W : WX} {m : Md} {n : Nat} {sc scT : Scope} {N : List String} {x tg : Expr} {t : Tg}, chkI G.T it m sc N x = true → tgOk it t = true → chkT scT N t tg = true → CxOk G X m n sc N → Takes X W → PI X tg x (tI G X W (wpI (CVX G X n) it))
  | .ival a, G, X, W, m, n, sc, scT, N, x, tg, t, h, ht, hg, c, tk => by
    have h' : (plainB x && chkE G.T a m sc N x) = true := h
    rw [Bool.and_eq_true] at h'
    exact rule_ival (sE a h'.2 c tk)
  | .irng es, G, X, W, m, n, sc, scT, N, x, tg, t, h, ht, hg, c, tk => by
    cases x with
    | Call g xs ks p =>
      cases g with
      | Name y q =>
        cases ks with
        | nil =>
          have h' : ((es.length == 1 || es.length == 2) && os "range" == y && gloB sc y && G.T.blts.contains "range" && chkL G.T es m sc N xs) = true := h
          simp only [Bool.and_eq_true] at h'
          obtain ⟨⟨⟨⟨h0, h1⟩, h2⟩, h3⟩, h4⟩ := h'
          cases os_eq h1
          have hpe := sL es h4 c tk (W := W)
          have hpa := hpe.pa
          rw [← hpe.len] at hpa
          have hp := hpe.plain
          have hlen := hpe.len
          match xs, hlen, hpa, hp with
          | [a], hlen, hpa, hp => exact rule_irng1 c (by rw [h2, h3]; rfl) hp hpa
          | [a, b], hlen, hpa, hp => exact rule_irng2 c (by rw [h2, h3]; rfl) hp hpa
          | [], hlen, hpa, hp => exact rng_no h0 hlen (by decide) (by decide)
          | _ :: _ :: _ :: _, hlen, hpa, hp => exact rng_no h0 hlen (by simp) (by simp)
        | cons _ _ => exact (Bool.false_ne_true h).elim
      | _ => exact (Bool.false_ne_true h).elim
    | _ => exact (Bool.false_ne_true h).elim
  | .ienum a, G, X, W, m, n, sc, scT, N, x, tg, t, h, ht, hg, c, tk => by
    cases x with
    | Call g xs ks p =>
      cases g with
      | Name y q =>
        match xs, ks, h with
        | [z], [], h =>
          have h' : (os "enumerate" == y && gloB sc y && G.T.blts.contains "enumerate" && plainB z && chkE G.T a m sc N z) = true := h
          simp only [Bool.and_eq_true] at h'
          obtain ⟨⟨⟨⟨h1, h2⟩, h3⟩, h4⟩, h5⟩ := h'
          cases os_eq h1
          cases t with
          | n i => exact (Bool.false_ne_true ht).elim
          | t ts =>
            cases tg with
            | Tuple es k p => exact rule_ienum c (by rw [h2, h3]; rfl) h4 (sE a h5 c tk)
            | _ => exact (Bool.false_ne_true hg).elim
        | [], _, h => exact (Bool.false_ne_true h).elim
        | _ :: _ :: _, _, h => exact (Bool.false_ne_true h).elim
        | [_], _ :: _, h => exact (Bool.false_ne_true h).elim
      | _ => exact (Bool.false_ne_true h).elim
    | _ => exact (Bool.false_ne_true h).elim
  | .izip es, G, X, W, m, n, sc, scT, N, x, tg, t, h, ht, hg, c, tk => by
    cases x with
    | Call g xs ks p =>
      cases g with
      | Name y q =>
        cases ks with
        | nil =>
          have h' : (decide (es.length = 2) && os "zip" == y && gloB sc y && G.T.blts.contains "zip" && chkL G.T es m sc N xs) = true := h
          simp only [Bool.and_eq_true] at h'
          obtain ⟨⟨⟨⟨h0, h1⟩, h2⟩, h3⟩, h4⟩ := h'
          cases os_eq h1
          have hpe := sL es h4 c tk (W := W)
          have hpa := hpe.pa
          have hl := hpe.len
          rw [of_decide_eq_true h0] at hpa hl
          have hp := hpe.plain
          match xs, hl, hpa, hp with
          | [a, b], _, hpa, hp =>
            cases t with
            | n i => exact (Bool.false_ne_true ht).elim
            | t ts =>
              cases tg with
              | Tuple es k p => exact rule_izip c (by rw [h2, h3]; rfl) hp hpa
              | _ => exact (Bool.false_ne_true hg).elim
        | cons _ _ => exact (Bool.false_ne_true h).elim
      | _ => exact (Bool.false_ne_true h).elim
    | _ => exact (Bool.false_ne_true h).elim
  | .var i, G, X, W, m, n, sc, scT, N, x, tg, t', h, ht, hg, c, tk => by
    cases x <;> exact (Bool.false_ne_true h).elim
  | .non, G, X, W, m, n, sc, scT, N, x, tg, t', h, ht, hg, c, tk => by
    cases x <;> exact (Bool.false_ne_true h).elim
  | .bl b, G, X, W, m, n, sc, scT, N, x, tg, t', h, ht, hg, c, tk => by
    cases x <;> exact (Bool.false_ne_true h).elim
  | .int b, G, X, W, m, n, sc, scT, N, x, tg, t', h, ht, hg, c, tk => by
    cases x <;> exact (Bool.false_ne_true h).elim
  | .str s, G, X, W, m, n, sc, scT, N, x, tg, t', h, ht, hg, c, tk => by
    cases x <;> exact (Bool.false_ne_true h).elim
  | .gfn f, G, X, W, m, n, sc, scT, N, x, tg, t', h, ht, hg, c, tk => by
    cases x <;> exact (Bool.false_ne_true h).elim
  | .gc f d, G, X, W, m, n, sc, scT, N, x, tg, t', h, ht, hg, c, tk => by
    cases x <;> exact (Bool.false_ne_true h).elim
  | .ty t, G, X, W, m, n, sc, scT, N, x, tg, t', h, ht, hg, c, tk => by
    cases x <;> exact (Bool.false_ne_true h).elim
  | .tup es, G, X, W, m, n, sc, scT, N, x, tg, t', h, ht, hg, c, tk => by
    cases x <;> exact (Bool.false_ne_true h).elim
  | .lst es, G, X, W, m, n, sc, scT, N, x, tg, t', h, ht, hg, c, tk => by
    cases x <;> exact (Bool.false_ne_true h).elim
  | .bin o a b, G, X, W, m, n, sc, scT, N, x, tg, t', h, ht, hg, c, tk => by
    cases x <;> exact (Bool.false_ne_true h).elim
  | .idx a i, G, X, W, m, n, sc, scT, N, x, tg, t', h, ht, hg, c, tk => by
    cases x <;> exact (Bool.false_ne_true h).elim
  | .slc a lo hi, G, X, W, m, n, sc, scT, N, x, tg, t', h, ht, hg, c, tk => by
    cases x <;> exact (Bool.false_ne_true h).elim
  | .fld a f, G, X, W, m, n, sc, scT, N, x, tg, t', h, ht, hg, c, tk => by
    cases x <;> exact (Bool.false_ne_true h).elim
  | .efld i f, G, X, W, m, n, sc, scT, N, x, tg, t', h, ht, hg, c, tk => by
    cases x <;> exact (Bool.false_ne_true h).elim
  | .call f es kws dfl, G, X, W, m, n, sc, scT, N, x, tg, t', h, ht, hg, c, tk => by
    cases x <;> exact (Bool.false_ne_true h).elim
  | .cloc i es, G, X, W, m, n, sc, scT, N, x, tg, t', h, ht, hg, c, tk => by
    cases x <;> exact (Bool.false_ne_true h).elim
  | .blt b es, G, X, W, m, n, sc, scT, N, x, tg, t', h, ht, hg, c, tk => by
    cases x <;> exact (Bool.false_ne_true h).elim
  | .meth a t es, G, X, W, m, n, sc, scT, N, x, tg, t', h, ht, hg, c, tk => by
    cases x <;> exact (Bool.false_ne_true h).elim
  | .comp elt tg1 it ifs own, G, X, W, m, n, sc, scT, N, x, tg, t', h, ht, hg, c, tk => by
    cases x <;> exact (Bool.false_ne_true h).elim
  | .lam a1 a2 a3 a4 a5, G, X, W, m, n, sc, scT, N, x, tg, t', h, ht, hg, c, tk => by
    cases x <;> exact (Bool.false_ne_true h).elim
  | .av i, G, X, W, m, n, sc, scT, N, x, tg, t', h, ht, hg, c, tk => by
    cases x <;> exact (Bool.false_ne_true h).elim
  | .irev a, G, X, W, m, n, sc, scT, N, x, tg, t', h, ht, hg, c, tk => by
    cases x <;> exact (Bool.false_ne_true h).elim
  | .neg a, G, X, W, m, n, sc, scT, N, x, tg, t', h, ht, hg, c, tk => by
    cases x <;> exact (Bool.false_ne_true h).elim
  | .cmp o a b, G, X, W, m, n, sc, scT, N, x, tg, t', h, ht, hg, c, tk => by
    cases x <;> exact (Bool.false_ne_true h).elim
  | .chain o o' a b d, G, X, W, m, n, sc, scT, N, x, tg, t', h, ht, hg, c, tk => by
    cases x <;> exact (Bool.false_ne_true h).elim
  | .not a, G, X, W, m, n, sc, scT, N, x, tg, t', h, ht, hg, c, tk => by
    cases x <;> exact (Bool.false_ne_true h).elim
  | .and a b, G, X, W, m, n, sc, scT, N, x, tg, t', h, ht, hg, c, tk => by
    cases x <;> exact (Bool.false_ne_true h).elim
  | .or a b, G, X, W, m, n, sc, scT, N, x, tg, t', h, ht, hg, c, tk => by
    cases x <;> exact (Bool.false_ne_true h).elim
  | .ite t a b, G, X, W, m, n, sc, scT, N, x, tg, t', h, ht, hg, c, tk => by
    cases x <;> exact (Bool.false_ne_true h).elim
termination_by it => (sizeOf it, 0)
end
end PS
set_option maxHeartbeats 2000000
/-! PS, part 26: statements: the reading, the rules. -/
namespace PS
open PySem PySem.Spec PyProof.Rows L2 PD
/-- is the list made straight into its name? (swapsWith) -/
def swB (sc : Scope) (tg e : Expr) : Bool :=
  match e, tg with
  | .ListComp _ _ scope p, .Name t q => (sc.names.lookup t == some .local) && (q.line == p.line) && !(scope.names.any fun (n, k) => n == t && (k == .local || k == .cell))
  | _, _ => false
/-- the names that are stored from the right (swappedStores); none: not told -/
def swpO (sc : Scope) (ts vs : List Expr) : Option (Option (List Str)) :=
  if (!(ts.length == 2 || ts.length == 3) || vs.length != ts.length) = true then some none
  else if (vs.any fun | .Starred .. => true | _ => false) = true then some none
  else
    let line := (ts.head?.map (·.pos.line)).getD 0
    let names := ts.filterMap fun
      | .Name id pos => if sc.names.lookup id == some .local && pos.line == line then some id else none
      | _ => none
    if (names.length != ts.length || names.eraseDups.length != names.length) = true then some none
    else if vs.all (foldedForSure 8) = true then some none
    else if vs.all (constantsAlone 8) = true then none
    else some (some names)
theorem sw_of {env : PySem.Env} (hk : env.scope.kind = .function) (tg e : Expr) (l : Nat) (hd : (match e with | .SetComp .. => true | .DictComp .. => true | _ => false) = false) : swapsWith e (some tg) l env = pure (swB env.scope tg e) := by
  have hb : env.blockKind = .function := by unfold PySem.Env.blockKind; rw [hk]; rfl
  cases e with
  | ListComp y gs scope p =>
    cases tg with
    | Name t q =>
      unfold swapsWith swB
      simp only [hb]
      rfl
    | _ => rfl
  | SetComp _ _ _ _ => cases hd
  | DictComp _ _ _ _ _ => cases hd
  | _ => rfl
theorem swp_of {env : PySem.Env} (hk : env.scope.kind = .function) {ts vs : List Expr} {k k2 : Nat} {p p2 : Pos} {r : Option (List Str)} (h : swpO env.scope ts vs = some r) : swappedStores [.Tuple ts k p] (.Tuple vs k2 p2) env = pure r := by
  have hb : env.blockKind = .function := by unfold PySem.Env.blockKind; rw [hk]; rfl
  unfold swpO at h
  unfold swappedStores
  simp only [hb]
  split at h
  · rename_i q
    cases h
    exact if_pos (by rw [q]; rfl)
  · rename_i q
    refine (if_neg (by simp only [Bool.not_eq_true] at q; rw [q]; decide)).trans ?_
    split at h
    · rename_i q2
      cases h
      exact if_pos q2
    · rename_i q2
      refine (if_neg q2).trans ?_
      simp only at h
      split at h
      · rename_i q3
        cases h
        exact if_pos q3
      · rename_i q3
        refine (if_neg q3).trans ?_
        split at h
        · rename_i q4
          cases h
          exact if_pos q4
        · rename_i q4
          refine (if_neg q4).trans ?_
          split at h
          · cases h
          · rename_i q5
            cases h
            exact (if_neg q5).trans rfl
section
variable {G : GT} {X : Cx} {W : WX} {m : Md} {n : Nat} {sc : Scope} {N : List String} {C : CallT}
/-- what is wanted behind statements, told of trees -/
structure EndOk (G : GT) (X : Cx) (W : WX) (K : En) (D : Ends) : Prop where
  nx : ∀ σ H e S, SR G X σ H e S → K.nx e S → D.nx σ H
  rt : ∀ σ v H e d S, SR G X σ H e S → Rep X.K X.mg H d v → K.rt d S → D.rt v H
  bk : ∀ σ H e S, SR G X σ H e S → K.bk e S → D.bk σ H
  ct : ∀ σ H e S, SR G X σ H e S → K.ct e S → D.ct σ H
  xx : ∀ x fs e S σ cls d H, SR G X σ H e S → XRep G X H x fs cls d → K.xx x fs e S → W cls d σ H
/-- THE READING of a statement -/
def tS (G : GT) (X : Cx) (W : WX) (w : En → PD.Env → Sto → Prop) : TS := fun D σ H => ∃ e S K, SR G X σ H e S ∧ w K e S ∧ EndOk G X W K D
/-- what a statement's context owes -/
structure SOk (X : Cx) (W : WX) : Prop where
  tk : Takes X W
  po : PassesOwn (model X.prog X.w) X.A X.env X.xe
  hs : X.stack = X.env :: X.outer
  hf : X.env.frame = some X.env.locals
  fn : ∀ x, X.fn x = true
theorem PS.imp {st : Stmt} {t t' : TS} (h : L2.PS X st t) (k : ∀ D σ H, t' D σ H → t D σ H) : L2.PS X st t' := ⟨fun pins s σ H D I q => h.run pins s σ H D I (k D σ H q)⟩
theorem PSs.imp {st : List Stmt} {t t' : TS} (h : PSs X st t) (k : ∀ D σ H, t' D σ H → t D σ H) : PSs X st t' := ⟨fun pins s σ H D I q => h.run pins s σ H D I (k D σ H q)⟩
theorem own_fn (c : CxOk G X m n sc N) (o : SOk X W) : Own X sc := fun x h => ⟨by rw [c.sc]; exact locB_ok h, .inl (o.fn x)⟩
variable {a b d : Expr} {x y z : Ex} {p pos : Pos}
/-- an expression, then what is told of its value -/
theorem tS.expr {f : D → En → PD.Env → Sto → Prop} {D : Ends} {σ : L2.St} {H : Hp} {wx : PD.Env → Sto → QV → QX → Prop} {Q : VK} (h : tS G X W (fun K e S => wx e S (fun v S1 => f v K e S1) (fun n fs S1 => K.xx n fs e S1)) D σ H)
    (k : ∀ v H1 d K e S1, Ext H H1 → Rep X.K X.mg H1 d v → SR G X σ H1 e S1 → EndOk G X W K D → f d K e S1 → Q v H1) : tE G X W wx σ H Q :=
  let ⟨e, S, K, sr, hw, hD⟩ := h
  ⟨e, S, _, _, sr, hw, fun v H1 d S1 x1 r s q => k v H1 d K e S1 x1 r s hD q, fun x fs S' cls d H' s xr q => hD.xx x fs e S' σ cls d H' s xr q⟩
theorem rule_ex (ha : PE X a (tE G X W (wpE C x))) (hs : swapsWith a none pos.line X.env = pure false) : L2.PS X (.Expr a pos) (tS G X W (wpS C (.ex x))) :=
  PS.imp (ps_expr ha hs) fun D σ H h => tS.expr (f := fun _ K e S1 => K.nx e S1) h fun v H1 d K e S1 _ _ s hD q => hD.nx σ H1 e S1 s q
theorem rule_ret (ha : PE X a (tE G X W (wpE C x))) : L2.PS X (.Return (some a) pos) (tS G X W (wpS C (.ret x))) :=
  PS.imp (ps_ret ha) fun D σ H h => tS.expr (f := fun d K _ S1 => K.rt d S1) h fun v H1 d K e S1 _ r s hD q => hD.rt σ v H1 e d S1 s r q
theorem rule_retn : L2.PS X (.Return none pos) (tS G X W (wpS C .retn)) :=
  PS.imp ps_retN fun D σ H ⟨e, S, K, sr, hw, hD⟩ => hD.rt σ .non H e .non S sr .non hw
theorem rule_pass : L2.PS X (.Pass pos) (tS G X W (wpS C .pass)) := PS.imp ps_pass fun D σ H ⟨e, S, K, sr, hw, hD⟩ => hD.nx σ H e S sr hw
theorem rule_doc {s : Str} {j p} : L2.PS X (.Expr (.Constant (.str s) j p) pos) (tS G X W (wpS C .pass)) := PS.imp ps_doc fun D σ H ⟨e, S, K, sr, hw, hD⟩ => hD.nx σ H e S sr hw
theorem rule_brk : L2.PS X (.Break pos) (tS G X W (wpS C .brk)) := PS.imp ps_break fun D σ H ⟨e, S, K, sr, hw, hD⟩ => hD.bk σ H e S sr hw
theorem rule_cnt : L2.PS X (.Continue pos) (tS G X W (wpS C .cnt)) := PS.imp ps_continue fun D σ H ⟨e, S, K, sr, hw, hD⟩ => hD.ct σ H e S sr hw
theorem rule_asg {tg : Expr} {t : Tg} (ha : PE X a (tE G X W (wpE C x))) (hg : PG X tg (gT G X t)) (hs : swapsWithSole [tg] a pos.line X.env = pure false) (hw : swappedStores [tg] a X.env = pure none) (h1 : (assignEach [tg] X.env).map (·.2) = [assign tg X.env]) :
    L2.PS X (.Assign [tg] a pos) (tS G X W (wpS C (.asg t x))) :=
  PS.imp (ps_asg ha hg hs hw h1) fun D σ H h => tS.expr (f := fun d K e S1 => tgW S1 t d e fun e' => K.nx e' S1) h fun v H1 d K e S1 _ r s hD q =>
    ⟨e, S1, d, fun e' => K.nx e' S1, s, r, q, fun σ' e' _ s' k => hD.nx σ' H1 e' S1 s' k⟩
/-- name = [..], straight -/
theorem rule_asgc {i : Nat} {st : Stmt} (base : L2.PS X st (tAsg (tE G X W (wpE C x)) (gName i))) : L2.PS X st (tS G X W (wpS C (.asg (.n i) x))) := by
  refine ⟨fun pins s σ H D I h => base.run pins s σ H D I ?_⟩
  exact tS.expr (f := fun d K e S1 => tgW S1 (.n i) d e fun e' => K.nx e' S1) h fun v H1 d K e S1 _ r s hD q => hD.nx _ H1 _ S1 (s.put I.len i r) q.2
theorem rule_if {u v : List PD.St} {bs cs : List Stmt} (ht : PT X a (tT G X W (wpE C x))) (hu : PSs X bs (tS G X W (wpB C u))) (hv : PSs X cs (tS G X W (wpB C v))) : L2.PS X (.If a bs cs pos) (tS G X W (wpS C (.ifs x u v))) :=
  PS.imp (ps_if ht hu hv) fun D σ H ⟨e, S, K, sr, hw, hD⟩ => tT.bind (wa := wpE C x) (k := fun c S1 => if c = true then wpB C u K e S1 else wpB C v K e S1) sr hw (fun c H1 S1 _ s q => by
    cases c with
    | true => exact ⟨e, S1, K, s, q, hD⟩
    | false => exact ⟨e, S1, K, s, q, hD⟩) fun x fs S' cls d H' s xr q => hD.xx x fs e S' σ cls d H' s xr q
theorem rule_nil : PSs X [] (tS G X W (wpB C [])) := PSs.imp pss_nil fun D σ H ⟨e, S, K, sr, hw, hD⟩ => hD.nx σ H e S sr hw
theorem rule_cons {s : PD.St} {r : List PD.St} {st : Stmt} {ss : List Stmt} (h1 : L2.PS X st (tS G X W (wpS C s))) (h2 : PSs X ss (tS G X W (wpB C r))) : PSs X (st :: ss) (tS G X W (wpB C (s :: r))) :=
  PSs.imp (pss_cons h1 h2) fun D σ H ⟨e, S, K, sr, hw, hD⟩ => ⟨e, S, _, sr, hw, ⟨fun σ' H' e' S' s' q => ⟨e', S', K, s', q, hD⟩, hD.rt, hD.bk, hD.ct, hD.xx⟩⟩
/-- the walk of a loop goes on from there -/
abbrev GT.at (G : GT) (H : Hp) : GT := { G with Hx := H }
theorem SR.re {σ : L2.St} {H Hn : Hp} {e : PD.Env} {S : Sto} (sr : SR G X σ H e S) (h : Ext Hn H) : SR (G.at Hn) X σ H e S where
  ext := sr.ext
  exx := h
  tab := sr.tab
  len := sr.len
  sl := sr.sl
  env := sr.env
  sto := sr.sto
  dat := sr.dat
theorem SR.back {σ : L2.St} {H Hn : Hp} {e : PD.Env} {S : Sto} (sr : SR (G.at Hn) X σ H e S) (h : Ext G.Hx Hn) : SR G X σ H e S where
  ext := sr.ext
  exx := h.trans sr.exx
  tab := sr.tab
  len := sr.len
  sl := sr.sl
  env := sr.env
  sto := sr.sto
  dat := sr.dat
theorem EndOk.at {K : En} {D : Ends} (h : EndOk G X W K D) {Hn : Hp} (x : Ext G.Hx Hn) : EndOk (G.at Hn) X W K D :=
  ⟨fun σ H e S s => h.nx σ H e S (s.back x), fun σ v H e d S s => h.rt σ v H e d S (s.back x), fun σ H e S s => h.bk σ H e S (s.back x), fun σ H e S s => h.ct σ H e S (s.back x), fun x' fs e S σ cls d H s => h.xx x' fs e S σ cls d H (s.back x)⟩
/-- for .. in .. -/
theorem rule_for {it : Ex} {t : Tg} {body : List PD.St} {tg iter : Expr} {bs : List Stmt} (po : PassesOwn (model X.prog X.w) X.A X.env X.xe) (hc : X.calm = true) (hi : PI X tg iter (tI G X W (wpI C it))) (hg : ∀ Hn, PG X tg (gT (G.at Hn) X t))
    (hb : ∀ Hn, PSs X bs (tS (G.at Hn) X W (wpB C body))) (hs : ∀ x, foldedSetIterable iter X.env x = pure x) : L2.PS X (.For tg iter bs [] pos) (tS G X W (wpS C (.for t it body))) := by
  have base := ps_for (pos := pos) po hc hi (g := fun v σ H Q => ∃ Hn, gT (G.at Hn) X t v σ H Q) (tb := fun D σ H => ∃ Hn, tS (G.at Hn) X W (wpB C body) D σ H)
    ⟨fun pins s σ H v u Q I r ⟨Hn, h⟩ => (hg Hn).run pins s σ H v u Q I r h⟩ ⟨fun pins s σ H D I ⟨Hn, h⟩ => (hb Hn).run pins s σ H D I h⟩ hs
  refine PS.imp base fun D σ H ⟨e, S, K, sr, hw, hD⟩ => ?_
  refine ⟨e, S, _, _, sr, hw, fun J H1 ds stay S1 x1 s1 ok hq => ?_, fun x fs S' cls d H' s xr q => hD.xx x fs e S' σ cls d H' s xr q⟩
  obtain ⟨Wp, w0, hstep⟩ := hq
  refine ⟨fun i k σ' Hc => i ≤ ds.length ∧ k = ds.length - i ∧ ∃ ec Sc, SR (G.at H1) X σ' Hc ec Sc ∧ Wp i ec Sc, ⟨_, Nat.zero_le _, rfl, e, S1, s1.re (.refl H1), w0⟩, ?_⟩
  rintro i k σc Hc ⟨hi', rfl, ec, Sc, sc', wi⟩
  obtain ⟨hstay, hturn, hfin⟩ := hstep i ec Sc wi
  have xG : Ext G.Hx H1 := s1.exx
  obtain ⟨okStop, okGo⟩ := ok i Hc Sc sc'.exx sc'.sto hstay
  by_cases hlt : i < ds.length
  · obtain ⟨go, gy⟩ := okGo hlt
    refine .inr ⟨go, fun σ' H' => ∃ e' S', SR (G.at H1) X σ' H' e' S' ∧ Wp (i + 1) e' S', fun σ' H' ⟨e', S', h1, h2⟩ => ⟨ds.length - (i + 1), by omega, hlt, rfl, e', S', h1, h2⟩, fun yv H' hy => ?_⟩
    obtain ⟨xy, ty, sy, d, hd, rd⟩ := gy yv H' hy
    have s2 : SR (G.at H1) X σc H' ec Sc := sc'.to xy (tabs_keep sc'.tab xy ty) sy
    refine ⟨H1, ec, Sc, d, _, s2, rd, hturn d hd, fun σ3 e3 _ s3 hk => ⟨H1, e3, Sc, _, s3, hk, ?_⟩⟩
    have hD' := hD.at xG
    exact ⟨fun σ' H' e' S' s' q => ⟨e', S', s', q⟩, hD'.rt, fun σ' H' e' S' s' q => hD'.nx σ' H' e' S' s' q, fun σ' H' e' S' s' q => ⟨e', S', s', q⟩, hD'.xx⟩
  · have e1 : i = ds.length := by omega
    exact .inl ⟨okStop e1, hD.nx σc Hc ec Sc (sc'.back xG) (hfin e1)⟩
/-- while -/
theorem rule_whl {body : List PD.St} {bs : List Stmt} (po : PassesOwn (model X.prog X.w) X.A X.env X.xe) (ht : PT X a (tT G X W (wpE C x))) (hb : PSs X bs (tS G X W (wpB C body))) : L2.PS X (.While a bs [] pos) (tS G X W (wpS C (.whl x body))) :=
  PS.imp (ps_while po ht hb) fun D σ H ⟨e, S, K, sr, hw, hD⟩ => by
    obtain ⟨Wp, ⟨k0, w0⟩, hstep⟩ := hw
    refine ⟨fun k σ' Hc => ∃ ec Sc, SR G X σ' Hc ec Sc ∧ Wp k ec Sc, ⟨k0, e, S, sr, w0⟩, ?_⟩
    rintro k σc Hc ⟨ec, Sc, sc', wi⟩
    refine tT.bind (wa := wpE C x) (k := fun c S1 => if c = true then wpB C body { K with nx := fun e' S' => ∃ m', m' < k ∧ Wp m' e' S', ct := fun e' S' => ∃ m', m' < k ∧ Wp m' e' S', bk := K.nx } ec S1 else K.nx ec S1) sc' (hstep k ec Sc wi) (fun c H1 S1 _ s q => ?_)
      fun x fs S' cls d H' s xr q => hD.xx x fs ec S' σc cls d H' s xr q
    cases c with
    | true =>
      refine ⟨fun σ' H' => ∃ m', m' < k ∧ ∃ e' S', SR G X σ' H' e' S' ∧ Wp m' e' S', fun σ' H' ⟨m', h1, h2⟩ => ⟨m', h1, h2⟩, ec, S1, _, s, q, ?_⟩
      exact ⟨fun σ' H' e' S' s' ⟨m', h1, h2⟩ => ⟨m', h1, e', S', s', h2⟩, hD.rt, fun σ' H' e' S' s' q => hD.nx σ' H' e' S' s' q, fun σ' H' e' S' s' ⟨m', h1, h2⟩ => ⟨m', h1, e', S', s', h2⟩, hD.xx⟩
    | false => exact hD.nx σc H1 ec S1 s q
end
end PS
set_option maxHeartbeats 2000000
/-! PS, part 27: tuple assignments, augmented ones, a[i] = v. -/
namespace PS
open PySem PySem.Spec PyProof.Rows L2 PD
section
variable {G : GT} {X : Cx} {W : WX} {m : Md} {n : Nat} {sc : Scope} {N : List String} {C : CallT}
variable {a b d : Expr} {es : List Expr} {x y z : Ex} {xs : List Ex} {p pos : Pos}
theorem three_of {ds : List D} (h : ds.length = 3) : ∃ a b c, ds = [a, b, c] := by
  match ds, h with
  | [a, b, c], _ => exact ⟨a, b, c, rfl⟩
theorem reps3 {K : PySem.W.Frag} {mg : Str → Option Value} {H : Hp} {x y z : D} {vs : List V} (h : Reps K mg H [x, y, z] vs) : ∃ u v w, vs = [u, v, w] ∧ Rep K mg H x u ∧ Rep K mg H y v ∧ Rep K mg H z w := by
  cases h with | cons r t => cases t with | cons r2 t2 => cases t2 with | cons r3 t3 => cases t3; exact ⟨_, _, _, rfl, r, r2, r3⟩
/-- two names at once -/
theorem rule_par2 {i j : Nat} {st : Stmt} (h2 : xs.length = 2) (ha : PA X es (tL G X W xs.length (wpL C xs))) (base : ∀ {ta : TA}, PA X es ta → L2.PS X st (tPar i j ta)) : L2.PS X st (tS G X W (wpS C (.asg (.t [.n i, .n j]) (.tup xs)))) := by
  refine ⟨fun pins s σ H D I ⟨e, S, K, sr, hw, hD⟩ => (base ha).run pins s σ H D I ?_⟩
  refine ⟨e, S, _, _, sr, hw, fun vs H1 ds S1 x1 r hl s1 q => ?_, fun x fs S' cls d H' s xr q => hD.xx x fs e S' σ cls d H' s xr q⟩
  obtain ⟨d1, d2, rfl⟩ := two_of (hl.trans h2)
  obtain ⟨v, w, rfl, r1, r2⟩ := reps2 r
  obtain ⟨_, hz, q⟩ := q
  rcases hz with hz | ⟨_, hz, _⟩
  rotate_left
  · cases hz
  cases hz
  obtain ⟨_, _, hz, _, d3, _, hz2, _, _, q⟩ := q
  cases hz
  cases hz2
  exact ⟨v, w, rfl, hD.nx _ H1 _ S1 ((s1.put I.len i r1).put (by rw [List.length_set]; exact I.len) j r2) q⟩
/-- three names at once -/
theorem rule_par3 {i j l : Nat} {st : Stmt} (h2 : xs.length = 3) (ha : PA X es (tL G X W xs.length (wpL C xs))) (base : ∀ {ta : TA}, PA X es ta → L2.PS X st (tPar3 i j l ta)) : L2.PS X st (tS G X W (wpS C (.asg (.t [.n i, .n j, .n l]) (.tup xs)))) := by
  refine ⟨fun pins s σ H D I ⟨e, S, K, sr, hw, hD⟩ => (base ha).run pins s σ H D I ?_⟩
  refine ⟨e, S, _, _, sr, hw, fun vs H1 ds S1 x1 r hl s1 q => ?_, fun x fs S' cls d H' s xr q => hD.xx x fs e S' σ cls d H' s xr q⟩
  obtain ⟨d1, d2, d3, rfl⟩ := three_of (hl.trans h2)
  obtain ⟨u, v, w, rfl, r1, r2, r3⟩ := reps3 r
  obtain ⟨_, hz, q⟩ := q
  rcases hz with hz | ⟨_, hz, _⟩
  rotate_left
  · cases hz
  cases hz
  obtain ⟨_, _, hz, _, _, _, hz2, _, _, _, hz3, _, _, q⟩ := q
  cases hz
  cases hz2
  cases hz3
  exact ⟨u, v, w, rfl, hD.nx _ H1 _ S1 (((s1.put I.len i r1).put (by rw [List.length_set]; exact I.len) j r2).put (by rw [List.length_set, List.length_set]; exact I.len) l r3) q⟩
def augB (o : Bo) (op : Operator) : Bool :=
  match o, op with
  | .add, .Add => true | .sub, .Sub => true | .mul, .Mult => true
  | _, _ => false
def rAug (K : PySem.W.Frag) (mg : Str → Option Value) (o : Bo) : V → V → Hp → VK → Prop := fun x y H Q => ∃ a b, Rep K mg H a x ∧ Rep K mg H b y ∧ augW o a b fun d => ∀ v, Rep K mg H d v → Q v H
theorem op_aug {o : Bo} {op : Operator} (h : augB o op = true) : PIp X op (rAug X.K X.mg o) := by
  intro pins s σ H x y v u Q I rx ry ⟨a, b, ra, rb, hw⟩
  cases o with
  | add =>
    cases op <;> first | (cases h; done) | skip
    cases a <;> cases b <;> first | exact hw.elim | skip
    · cases rep_int ra; cases rep_int rb
      exact iop_add pins s σ H _ _ v u Q I rx ry ⟨_, _, rfl, rfl, hw _ (.int _)⟩
    · cases rep_str ra; cases rep_str rb
      refine iop_add_str pins s σ H _ _ v u Q I rx ry ⟨_, _, rfl, rfl, by rw [cs_len, cs_len, line_eq]; exact hw.1, ?_⟩
      rw [cs_app]
      exact hw.2 _ (.str _)
  | sub =>
    cases op <;> first | (cases h; done) | skip
    cases a <;> cases b <;> first | exact hw.elim | skip
    cases rep_int ra; cases rep_int rb
    exact iop_sub pins s σ H _ _ v u Q I rx ry ⟨_, _, rfl, rfl, hw _ (.int _)⟩
  | mul =>
    cases op <;> first | (cases h; done) | skip
    cases a <;> cases b <;> first | exact hw.elim | skip
    cases rep_int ra; cases rep_int rb
    obtain ⟨t, rfl⟩ := rx
    obtain ⟨t', rfl⟩ := ry
    exact imul_int ⟨.int _, H, I.tok _, ⟨_, rfl⟩, hw.2 _ (.int _)⟩ (cmulw hw.1)
  | _ => cases h
/-- x op= y -/
theorem rule_aug (c : CxOk G X m n sc N) (o' : SOk X W) {i : Nat} {nm : Str} {o : Bo} {op : Operator} (h : (atB N i nm && locB sc nm) = true) (ho : augB o op = true) (ha : PE X a (tE G X W (wpE C x))) : L2.PS X (.AugAssign (.Name nm p) op a pos) (tS G X W (wpS C (.aug i o x))) := by
  rw [Bool.and_eq_true] at h
  have base := ps_aug (pos := pos) (pos' := p) c.nd (c.at h.1) (by rw [c.sc]; exact locB_ok h.2) ha (op_aug ho) (.inl (o'.fn nm))
  refine ⟨fun pins s σ H D I ⟨e, S, K, sr, hw, hD⟩ => base.run pins s σ H D I ?_⟩
  obtain ⟨d, hd, hw⟩ := hw
  obtain ⟨v, hv, rd⟩ := sr_var sr hd
  refine ⟨v, hv, e, S, _, _, sr, hw, fun u H1 d1 S1 x1 r s1 q => ⟨d, d1, rd.ext x1, r, ?_⟩, fun x fs S' cls d H' s xr q => hD.xx x fs e S' σ cls d H' s xr q⟩
  have mono : ∀ {Q Q' : PD.D → Prop}, augW o d d1 Q → (∀ z, Q z → Q' z) → augW o d d1 Q' := fun h k => by
    revert h
    cases o <;> cases d <;> cases d1 <;> intro h <;> first | exact k _ h | exact ⟨h.1, k _ h.2⟩ | exact h
  exact mono q fun z hz w rw' => hD.nx _ H1 _ S1 (s1.put I.len i rw') hz
/-- a[i] = v -/
theorem rule_sidx (hb : plainB b = true) (hx : PE X d (tE G X W (wpE C x))) (ha : PE X a (tE G X W (wpE C y))) (hi : PE X b (tE G X W (wpE C z))) (hs : swapsWithSole [.Subscript a b p] d pos.line X.env = pure false) (hw' : swappedStores [.Subscript a b p] d X.env = pure none) :
    L2.PS X (.Assign [.Subscript a b p] d pos) (tS G X W (wpS C (.sidx y z x))) := by
  have pg := pg_sub (pos := p) ha hi set_list (fun v => by cases b <;> first | rfl | cases hb)
  have base := ps_asg (pos := pos) hx pg hs hw' rfl
  refine ⟨fun pins s σ H D I ⟨e, S, K, sr, hw, hD⟩ => base.run pins s σ H D I ?_⟩
  have hx' : ∀ x fs S' cls d H', SR G X σ H' e S' → XRep G X H' x fs cls d → K.xx x fs e S' → W cls d σ H' := fun x fs S' cls d H' s xr q => hD.xx x fs e S' σ cls d H' s xr q
  refine ⟨e, S, _, _, sr, hw, fun v H1 d1 S1 x1 r1 s1 q1 => ?_, hx'⟩
  refine ⟨e, S1, _, _, s1, q1, fun w H2 d2 S2 x2 r2 s2 q2 => ?_, hx'⟩
  refine ⟨e, S2, _, _, s2, q2, fun u H3 d3 S3 x3 r3 s3 q3 => ?_, hx'⟩
  cases d2 with
  | ref q =>
    cases d3 with
    | int k =>
      cases rep_ref r2
      cases rep_int r3
      simp only [sidxW] at q3
      split at q3
      · rename_i xs hxs
        obtain ⟨j, hj, q3⟩ := q3
        obtain ⟨vs, k2, rr⟩ := sr_lst s3 hxs
        exact ⟨q, vs, k, j, rfl, rfl, k2, place_len rr.len hj, hD.nx σ _ e _ (s3.setl k2 (rr.set (r1.ext (x2.trans x3)) j)) q3⟩
      · exact q3.elim
    | _ => exact q3.elim
  | _ => cases d3 <;> exact q3.elim
end
end PS
set_option maxHeartbeats 2000000
/-! PS, part 28: try with several clauses, each with its name. -/
namespace PS
open PySem PySem.Spec PyProof.Rows L2 PD
abbrev Suite := Addr → Value → Option Addr → TS
/-- behind a suite its name is gone -/
abbrev goneD (D : Ends) (i : Nat) : Ends := { nx := fun σ H => D.nx (σ.set i none) H, rt := D.rt, bk := fun σ H => D.bk (σ.set i none) H, ct := fun σ H => D.ct (σ.set i none) H }
/-- what the clauses wish, one after the other -/
def wClauses (K : PySem.W.Frag) (Wout : WX) (D : Ends) : List (Value × Nat × Suite) → WX
  | [] => Wout
  | (c, i, ts) :: r => fun cls d σ H => ∃ b, PySem.W.exmOne K cls c = some b ∧ (b = true → ∀ a, H a = none → ts a cls d (goneD D i) (σ.set i (some (.ref a))) H) ∧ (b = false → wClauses K Wout D r cls d σ H)
inductive ClausesOk (X : Cx) : List ExceptHandler → List (Value × Nat × Suite) → Prop
  | nil : ClausesOk X [] []
  | cons {x n : Str} {c : Value} {i : Nat} {ts : Suite} {st : Stmt} {rest : List Stmt} {np hp : Pos} {hs : List ExceptHandler} {l : List (Value × Nat × Suite)} (nm : Names X x c) (at_ : X.N[i]? = some n) (loc : X.env.kindOf n = some .local)
      (su : ∀ (a : Addr) (oe : Obj) (cls : Value) (d : Option Addr) (pn : List (Addr × Obj)), Zc cls d oe → (∃ vs, oe.data = .fields vs) → PSs (X.suite a ((a, oe) :: pn)) (st :: rest) (ts a cls d)) (t : ClausesOk X hs l) :
      ClausesOk X (.ExceptHandler (some (.Name x np)) (some n) (st :: rest) hp :: hs) ((c, i, ts) :: l)
section
variable {X : Cx} {body : List Stmt} {h0 : ExceptHandler} {hs : List ExceptHandler} {l : List (Value × Nat × Suite)} {pos : Pos} {tb : WX → TS} {Wout : WX}
/-- a try block's end, in the context around -/
theorem SP.ofTry {pins : List (Addr × Obj)} {D : Ends} {f : Flow} {s' : Shared} {xe : Value → Shared → Prop} (ok : X.Ok) (h : SP (X.tr (X.pn ++ pins) xe) [] D f s') : SP X pins D f s' := by
  cases f with
  | next => obtain ⟨σ', H', J, q⟩ := h; exact ⟨σ', H', J.ofTry ok, q⟩
  | brk => obtain ⟨σ', H', J, q⟩ := h; exact ⟨σ', H', J.ofTry ok, q⟩
  | cont => obtain ⟨σ', H', J, q⟩ := h; exact ⟨σ', H', J.ofTry ok, q⟩
  | ret u => obtain ⟨v, σ', H', J, r, q⟩ := h; exact ⟨v, σ', H', J.ofTry ok, r, q⟩
theorem try_clauses (st : X.stack = X.env :: X.outer) (hf : X.env.frame = some X.env.locals) (nd : X.N.Nodup) (tk : Takes X Wout)
    (hb : ∀ (W : WX) (pn : List (Addr × Obj)) (xe : Value → Shared → Prop), Takes (X.tr pn xe) W → PassesOwn (model X.prog X.w) X.A X.env xe → PSs (X.tr pn xe) body (tb W))
    (hh : ClausesOk X (h0 :: hs) l) : L2.PS X (.Try body (h0 :: hs) [] [] pos) (fun D σ H => tb (wClauses X.K Wout D l) D σ H) := by
  refine ⟨fun pins s σ H D I h => ?_⟩
  have ok := I.ok
  have frames : X.A.frames = some (X.env :: X.outer) := by rw [ok.frames, st]
  refine wpAny_Try_except ?_
  have taken : Takes (X.tr (X.pn ++ pins) (fun e s₁ => wpAny (model X.prog X.w) X.A (noteFrame e X.env) (fun _ s₂ => wpAny (model X.prog X.w) X.A (setFlight e none) (fun _ s₃ => wpAny (model X.prog X.w) X.A (handleBy e X.env (h0 :: hs)) (SP X pins D) X.xe s₃) X.xe s₂) X.xe s₁))
      (wClauses X.K Wout D l) := by
    rintro u s' ⟨a, B, sI, pins', σ', H', cls, d, rfl, J', nb, up, sky, na, eos, bare, w⟩
    have J : Inv X pins σ' H' sI := J'.ofTry ok
    have sky2 : Sky B (X.env :: X.outer) a (Zc cls d) X.env.locals s'.heap := st ▸ sky
    show wpAny (model X.prog X.w) X.A (noteFrame (.ref a) X.env) _ _ _
    refine Sky.land Zc.steady frames hf sky2 fun h3 fl3 up3 => ?_
    have J3 : Inv X pins σ' H' { s' with heap := h3 } := J.landed nb fl3.1 (up.trans up3) eos bare
    obtain ⟨oe, vs, he, hz, hd⟩ := fl3.there
    -- the exception is no frame
    have off : a ∉ frs (X.env :: X.outer) := fun hm => by
      obtain ⟨_, o2, e2, nf⟩ := fl3.2.2.1.mem hm
      rw [he] at e2
      cases e2
      exact nf vs hd
    have offL : a ≠ X.env.locals := fun z => off (List.mem_filterMap.mpr ⟨X.env, List.mem_cons_self, by rw [hf, z]⟩)
    have offF : a ∉ X.fs := fun hm => by
      obtain ⟨e2, he2, q⟩ := List.mem_filterMap.mp hm
      exact off (List.mem_filterMap.mpr ⟨e2, List.mem_cons_of_mem _ he2, q⟩)
    have S3 := J3.suite he hd na offL offF
    have looks : PySem.W.Looks (model X.prog X.w) h3 (typeOf (.ref a)) cls := fun A Q E s k q => wpAny_typeOf_ref (k _ _ he) (by rw [hz.1]; exact q)
    -- clause by clause
    have along : ∀ (hs' : List ExceptHandler) (l' : List (Value × Nat × Suite)), ClausesOk X hs' l' → wClauses X.K Wout D l' cls d σ' H' → wpAny (model X.prog X.w) X.A (handleBy (.ref a) X.env hs') (SP X pins D) X.xe { s' with heap := h3 } := by
      intro hs' l' hk
      induction hk with
      | nil =>
        intro w
        refine wpAny_handleBy_nil ?_
        obtain ⟨g1, g2, g3, oe2, vs2, T, oT, ts2, i1, i2, i3, i4, i5⟩ := id fl3
        unfold PySem.passOn
        refine wpAny_bind (wpAny_field i1 i3 i4 ?_)
        rw [if_neg (show ¬ ((Value.ref T == Value.none) = true) from by simp)]
        have out : wpAny (model X.prog X.w) X.A (setFlight (.ref a) X.env.frame) (fun _ s4 => wpAny (model X.prog X.w) X.A (throw (.ref a) : Sem Flow) (SP X pins D) X.xe s4) X.xe { s' with heap := h3 } := by
          rw [hf]
          refine HandSPX.setFlight_upZ fl3 fun h4 held up4 => wpAny_throw (tk _ _ ⟨a, B, sI, pins, σ', H', cls, d, rfl, J, nb, (up.trans up3).trans up4, .inr (.inr (st ▸ held)), na, eos, bare, w⟩)
        first
          | exact wpAny_bind (wpAny_pure (wpAny_bind out))
          | exact wpAny_bind out
      | @cons x n c i ts st0 rest np hp hs2 l2 nm at_ loc su t ih =>
        intro w
        obtain ⟨b, e1, yes, no⟩ := w
        refine wpAny_handleBy_cons (codeAny_handlers_test ?_) (by intro q; cases q)
        have test : ∀ {Q : Value → Shared → Prop} {E : Value → Shared → Prop}, Q c { s' with heap := h3 } → wpAny (model X.prog X.w) (X.A.mark (some (.ref a))) (eval (.Name x np) X.env) Q E { s' with heap := h3 } := fun {Q E} q => by
          obtain ⟨g, db, m1 | ⟨m1, m2, m3⟩⟩ := nm
          · exact ld_glob (X := X.suite a ((a, oe) :: (X.pn ++ pins))) S3 g m1 q db
          · exact ld_blt (X := X.suite a ((a, oe) :: (X.pn ++ pins))) S3 g m1 m2 q m3 db
        refine test ((PySem.W.exm_one (M := model X.prog X.w) J3.kIn looks e1).here ?_)
        cases b with
        | false =>
          show wpAny _ X.A (handleBy (.ref a) X.env hs2) _ _ _
          exact ih (no rfl)
        | true =>
          refine codeAny_handlers_suite_as (HandSPX.lands_againZ fl3 fun h4 fl4 up4 => ?_)
          have J4 : Inv X pins σ' H' { s' with heap := h4 } := J.landed nb fl4.1 ((up.trans up3).trans up4) eos bare
          obtain ⟨oe4, vs4, he4, hz4, hd4⟩ := fl4.there
          have S4 := J4.suite he4 hd4 na offL offF
          refine store_ok (X := X.suite a ((a, oe4) :: (X.pn ++ pins))) (v := .ref a) S4 nd at_ (.inl loc) rfl (fun s5 S5 => ?_) (.inr loc)
          refine wpAny_mono ((su a oe4 cls d (X.pn ++ pins) hz4 ⟨_, hd4⟩).run [] s5 _ H' _ S5 (yes rfl a na)) (fun f s6 hsp => ?_) fun _ _ z => z.elim
          have gone : ∀ {σ6 : L2.St} {H6 : Hp} {Q : Shared → Prop}, Inv (X.suite a ((a, oe4) :: (X.pn ++ pins))) [] σ6 H6 s6 → (∀ s7, Inv X pins (σ6.set i none) H6 s7 → Q s7) →
              wpAny (model X.prog X.w) X.A (do bindName X.env n .none; unbindBehindTheSuite X.env n hp) (fun _ s7 => Q s7) X.xe s6 := fun S6 hq => gone_ok (S6.unsuite ok) nd at_ loc hq
          cases f with
          | next => obtain ⟨σ6, H6, S6, q6⟩ := hsp; exact gone S6 fun s7 J7 => ⟨_, _, J7, q6⟩
          | brk => obtain ⟨σ6, H6, S6, q6⟩ := hsp; exact gone S6 fun s7 J7 => ⟨_, _, J7, q6⟩
          | cont => obtain ⟨σ6, H6, S6, q6⟩ := hsp; exact gone S6 fun s7 J7 => ⟨_, _, J7, q6⟩
          | ret u => obtain ⟨v6, σ6, H6, S6, r6, q6⟩ := hsp; exact gone S6 fun s7 J7 => ⟨_, _, _, J7, r6, q6⟩
    exact along _ _ hh w
  refine wpAny_mono ((hb (wClauses X.K Wout D l) (X.pn ++ pins) _ taken PassesOwn.looking).run [] s σ H D (I.toTry _) h) (fun f s1 q => ?_) fun e s1 he => he
  have q := SP.ofTry ok q
  cases f with
  | next => exact wpAny_execs_nil q
  | brk => exact q
  | cont => exact q
  | ret u => exact q
end
end PS
set_option maxHeartbeats 2000000
/-! PS, part 29: try and raise, by trees. -/
namespace PS
open PySem PySem.Spec PyProof.Rows L2 PD
section
variable {G : GT} {X : Cx} {W : WX} {m : Md} {n : Nat} {sc : Scope} {N : List String} {C : CallT}
/-- where nothing is handled no error stands in a slot, but one without fields -/
theorem SR.ctx {X' : Cx} {σ : L2.St} {H : Hp} {e : PD.Env} {S : Sto} (hK : X'.K = X.K) (hm : X'.mg = X.mg) (hN : X'.N = X.N) (hh : X.A.handled = none) (sr : SR G X σ H e S) : SR G X' σ H e S where
  ext := sr.ext
  exx := sr.exx
  tab := sr.tab
  len := by rw [hN]; exact sr.len
  sl := by rw [hN]; exact sr.sl
  env := fun i a q => by
    obtain ⟨v, h1, h2⟩ := sr.env i a q
    refine ⟨v, h1, ?_⟩
    cases a with
    | d x => show Rep X'.K X'.mg H x v; rw [hK, hm]; exact h2
    | clo ps fr b cs ds => show ∃ f, v = .ref f ∧ CloAt G.T X'.K X'.mg G.hp G.H0 f (.clo ps fr b cs ds); rw [hK, hm]; exact h2
    | exc x fs =>
      have h2 : ExcAt X H x fs v := h2
      rcases h2 with h2 | ⟨a, C, dd, gs, oe, _, h3, _⟩
      · exact .inl h2
      · rw [hh] at h3; cases h3
  sto := by rw [hK, hm]; exact sr.sto
  dat := sr.dat
theorem CxOk.tr (c : CxOk G X m n sc N) (pn : List (Addr × Obj)) (xe : Value → Shared → Prop) : CxOk G (X.tr pn xe) m n sc N := ⟨c.sc, c.kind, c.nm, c.nd, c.calm, c.un, c.link, c.facts, c.lam⟩
theorem CxOk.suite (c : CxOk G X m n sc N) (a : Addr) (pn : List (Addr × Obj)) : CxOk G (X.suite a pn) ⟨false, false⟩ n sc N :=
  ⟨c.sc, c.kind, c.nm, c.nd, fun z => (Bool.false_ne_true z).elim, c.un, c.link, c.facts, fun z => (Bool.false_ne_true z).elim⟩
/-- an except suite: i the slot of its name -/
def tSuite (G : GT) (X : Cx) (i : Nat) (w : En → PD.Env → Sto → Prop) : Suite := fun a cls d D σ H => ∃ e S K x fs σ0, SR G X σ0 H e S ∧ σ = σ0.set i (some (.ref a)) ∧ XRep G X H x fs cls d ∧ w K (e.set i (some (.exc x fs))) S ∧
  (∀ (σ' : L2.St) (H' : Hp) (e' : PD.Env) (S' : Sto), SR G X (σ'.set i none) H' (unexc (e'.set i none)) S' → K.nx e' S' → D.nx σ' H') ∧
  (∀ (σ' : L2.St) (v : V) (H' : Hp) (e' : PD.Env) (d' : PD.D) (S' : Sto), SR G X (σ'.set i none) H' (unexc (e'.set i none)) S' → Rep X.K X.mg H' d' v → K.rt d' S' → D.rt v H') ∧
  (∀ (σ' : L2.St) (H' : Hp) (e' : PD.Env) (S' : Sto), SR G X (σ'.set i none) H' (unexc (e'.set i none)) S' → K.bk e' S' → D.bk σ' H') ∧
  (∀ (σ' : L2.St) (H' : Hp) (e' : PD.Env) (S' : Sto), SR G X (σ'.set i none) H' (unexc (e'.set i none)) S' → K.ct e' S' → D.ct σ' H') ∧ ∀ (x : String) (fs : List (String × PD.D)) (e' : PD.Env) (S' : Sto), ¬ K.xx x fs e' S'
theorem SR.suite (c : CxOk G X m n sc N) (hh : X.A.handled = none) {σ : L2.St} {H : Hp} {e : PD.Env} {S : Sto} (sr : SR G X σ H e S) {i : Nat} {a : Addr} {oe : Obj} {cls : Value} {d : Option Addr} {pn : List (Addr × Obj)} (hz : Zc cls d oe) (hf : ∃ vs, oe.data = .fields vs)
    {x : String} {fs : List (String × D)} (xr : XRep G X H x fs cls d) (hclo : G.clo = true) : SR G (X.suite a ((a, oe) :: pn)) (σ.set i (some (.ref a))) H (e.set i (some (.exc x fs))) S := by
  have base : SR G (X.suite a ((a, oe) :: pn)) σ H e S := SR.ctx (X := X) (X' := X.suite a ((a, oe) :: pn)) rfl rfl rfl hh sr
  refine ⟨base.ext, base.exx, base.tab, by rw [List.length_set]; exact base.len, by rw [List.length_set]; exact base.sl, fun j b q => ?_, base.sto, fun z => by rw [hclo] at z; cases z⟩
  by_cases hj : i = j
  · subst hj
    by_cases hi : i < e.length
    · rw [List.getElem?_set_self hi] at q
      cases q
      rw [List.getElem?_set_self (by rw [sr.sl, ← sr.len]; exact hi)]
      refine ⟨.ref a, rfl, ?_⟩
      obtain ⟨Ca, rfl, h2, h3, h4⟩ := xr
      rcases h4 with h4 | ⟨dd, gs, rfl, h5, h6⟩
      · exact .inl h4
      · refine .inr ⟨a, Ca, dd, gs, oe, rfl, rfl, List.mem_cons_self, hz, hf, h2, h5, h6, fun f d' hd' => ?_⟩
        obtain ⟨C', k1, k2, _⟩ := c.facts.err _ h3
        rw [h2] at k1
        cases k1
        refine k2 f ?_
        have g : ∀ l : List (String × PD.D), l.lookup f = some d' → f ∈ l.map (·.1) := fun l => by
          induction l with
          | nil => intro h; cases h
          | cons p l ih =>
            intro h
            rw [List.lookup_cons] at h
            by_cases q : f = p.1
            · rw [q]; exact List.mem_cons_self
            · rw [show (f == p.1) = false from beq_eq_false_iff_ne.mpr q] at h
              exact List.mem_cons_of_mem _ (ih h)
        exact g fs hd'
    · rw [List.getElem?_eq_none (by rw [List.length_set]; omega)] at q
      cases q
  · rw [List.getElem?_set_ne hj] at q
    rw [List.getElem?_set_ne hj]
    exact base.env j b q
theorem unexc_some {e : PD.Env} {j : Nat} {a : AV} (h : (unexc e)[j]? = some (some a)) : e[j]? = some (some a) ∧ notX a := by
  unfold unexc at h
  rw [List.getElem?_map] at h
  cases q : e[j]? with
  | none => rw [q] at h; cases h
  | some o =>
    rw [q] at h
    cases o with
    | none => cases h
    | some b => cases b <;> cases h <;> exact ⟨rfl, trivial⟩
theorem SR.unsuite {σ : L2.St} {H : Hp} {e : PD.Env} {S : Sto} {a : Addr} {pn : List (Addr × Obj)} {i : Nat} (sr : SR G (X.suite a pn) σ H e S) : SR G X (σ.set i none) H (unexc (e.set i none)) S where
  ext := sr.ext
  exx := sr.exx
  tab := sr.tab
  len := by
    unfold unexc
    rw [List.length_map, List.length_set]
    exact sr.len
  sl := by
    rw [List.length_set]
    exact sr.sl
  env := fun j b q => by
    obtain ⟨q, nx⟩ := unexc_some q
    by_cases hj : i = j
    · subst hj
      by_cases hi : i < e.length
      · rw [List.getElem?_set_self hi] at q; cases q
      · rw [List.getElem?_eq_none (by rw [List.length_set]; omega)] at q; cases q
    · rw [List.getElem?_set_ne hj] at q
      rw [List.getElem?_set_ne hj]
      obtain ⟨v, h1, h2⟩ := sr.env j b q
      refine ⟨v, h1, ?_⟩
      cases b with
      | d x => exact h2
      | clo ps fr b cs ds => exact h2
      | exc x fs => exact nx.elim
  sto := sr.sto
  dat := fun z j b q => by
    obtain ⟨q, nx⟩ := unexc_some q
    by_cases hj : i = j
    · subst hj
      by_cases hi : i < e.length
      · rw [List.getElem?_set_self hi] at q; cases q
      · rw [List.getElem?_eq_none (by rw [List.length_set]; omega)] at q; cases q
    · rw [List.getElem?_set_ne hj] at q
      exact sr.dat z j b q
/-- a clause: its error, its slot, its suite -/
inductive ClD (G : GT) (X : Cx) (C : CallT) : List String → List Nat → List (List PD.St) → List ExceptHandler → Prop
  | nil : ClD G X C [] [] [] []
  | cons {y : String} {i : Nat} {h : List PD.St} {n : Str} {st : Stmt} {rest : List Stmt} {np hp : Pos} {ys : List String} {is : List Nat} {hs : List (List PD.St)} {es : List ExceptHandler} (hy : (∃ q ∈ G.T.errs, q.1 = y) ∨ y = "PoolError") (gl : Gl X (os y)) (db : (os y == ("__debug__" : Str)) = false)
      (at_ : X.N[i]? = some n) (loc : X.env.kindOf n = some .local) (su : ∀ a pn, PSs (X.suite a pn) (st :: rest) (tS G (X.suite a pn) W0 (wpB C h))) (t : ClD G X C ys is hs es) :
      ClD G X C (y :: ys) (i :: is) (h :: hs) (.ExceptHandler (some (.Name (os y) np)) (some n) (st :: rest) hp :: es)
/-- the clauses, as the library tells them -/
theorem ClD.to (c : CxOk G X m n sc N) (hclo : G.clo = true) (hh : X.A.handled = none) (hex : ∃ p, p ∈ G.T.errs) {ys : List String} {is : List Nat} {hs : List (List PD.St)} {es : List ExceptHandler} (h : ClD G X C ys is hs es) :
    ∃ l, ClausesOk X es l ∧ ∀ (K : En) (D : Ends), EndOk G X W K D → ∀ x fs e S σ cls d H, SR G X σ H e S → XRep G X H x fs cls d → wpH C ys is hs K x fs e S → wClauses X.K W D l cls d σ H := by
  induction h with
  | nil => exact ⟨[], .nil, fun K D hD x fs e S σ cls d H sr xr hw => hD.xx x fs e S σ cls d H sr xr hw⟩
  | @cons y i h nm st rest np hp ys is hs es hy gl db at_ loc su t ih =>
    obtain ⟨l, h1, h2⟩ := ih
    obtain ⟨p0, hp0⟩ := hex
    obtain ⟨_, _, _, k3⟩ := c.facts.err _ hp0
    obtain ⟨Cy, k4, _⟩ := k3 y hy
    refine ⟨(.ref Cy, i, tSuite G X i (wpB C h)) :: l, .cons ⟨gl, db, .inl k4⟩ at_ loc (fun a oe cls d pn hz hf => ⟨fun pins s σ H D I hq => ?_⟩) h1, fun K D hD x fs e S σ cls d H sr xr hw => ?_⟩
    · obtain ⟨e, S, K, x, fs, σ0, sr, rfl, xr, hw, q1, q2, q3, q4, q5⟩ := hq
      refine (su a ((a, oe) :: pn)).run pins s _ H D I ⟨_, S, K, sr.suite c hh hz hf xr hclo, hw, ?_⟩
      exact ⟨fun σ' H' e' S' s' => q1 σ' H' e' S' s'.unsuite, fun σ' v H' e' d' S' s' => q2 σ' v H' e' d' S' s'.unsuite, fun σ' H' e' S' s' => q3 σ' H' e' S' s'.unsuite, fun σ' H' e' S' s' => q4 σ' H' e' S' s'.unsuite, fun x fs e' S' _ _ _ _ _ _ z => (q5 x fs e' S' z).elim⟩
    · obtain ⟨Cx, g1, g2, g3, g4⟩ := xr
      obtain ⟨C', k5, k6, k7⟩ := c.facts.err _ g3
      rw [g2] at k5
      cases k5
      obtain ⟨Cy', k8, k9⟩ := k7 y hy
      rw [k4] at k8
      cases k8
      refine ⟨(x == y || y == "PoolError"), by rw [g1]; exact k9, fun hb a na => ?_, fun hb => ?_⟩
      · have hc : y = x ∨ y = "PoolError" := by
          rw [Bool.or_eq_true, beq_iff_eq, beq_iff_eq] at hb
          exact hb.imp Eq.symm id
        have hw' := hw
        simp only [wpH] at hw'
        rw [if_pos hc] at hw'
        exact ⟨e, S, _, x, fs, σ, sr, rfl, ⟨Cx, g1, g2, g3, g4⟩, hw', fun σ' H' e' S' s' q => hD.nx _ H' _ S' s' q, fun σ' v H' e' d' S' s' r q => hD.rt _ v H' _ d' S' s' r q, fun σ' H' e' S' s' q => hD.bk _ H' _ S' s' q, fun σ' H' e' S' s' q => hD.ct _ H' _ S' s' q, fun _ _ _ _ z => z⟩
      · have hc : ¬ (y = x ∨ y = "PoolError") := fun z => by
          have : (x == y || y == "PoolError") = true := by
            rw [Bool.or_eq_true, beq_iff_eq, beq_iff_eq]
            exact z.imp Eq.symm id
          rw [this] at hb
          cases hb
        have hw' := hw
        simp only [wpH] at hw'
        rw [if_neg hc] at hw'
        exact h2 K D hD x fs e S σ cls d H sr ⟨Cx, g1, g2, g3, g4⟩ hw'
end
end PS
set_option maxHeartbeats 2000000
/-! PS, part 30: try, raise; the check of statements. -/
namespace PS
open PySem PySem.Spec PyProof.Rows L2 PD
section
variable {G : GT} {X : Cx} {W : WX} {m : Md} {n : Nat} {sc : Scope} {N : List String} {C : CallT}
theorem EndOk.ctx {X' : Cx} {K : En} {D : Ends} (hK : X'.K = X.K) (hm : X'.mg = X.mg) (hN : X'.N = X.N) (hh : X'.A.handled = none) (h : EndOk G X W K D) : EndOk G X' W K D where
  nx := fun σ H e S s => h.nx σ H e S (SR.ctx (X := X') (X' := X) hK.symm hm.symm hN.symm hh s)
  rt := fun σ v H e d S s r => h.rt σ v H e d S (SR.ctx (X := X') (X' := X) hK.symm hm.symm hN.symm hh s) (by rw [← hK, ← hm]; exact r)
  bk := fun σ H e S s => h.bk σ H e S (SR.ctx (X := X') (X' := X) hK.symm hm.symm hN.symm hh s)
  ct := fun σ H e S s => h.ct σ H e S (SR.ctx (X := X') (X' := X) hK.symm hm.symm hN.symm hh s)
  xx := fun x fs e S σ cls d H s r => h.xx x fs e S σ cls d H (SR.ctx (X := X') (X' := X) hK.symm hm.symm hN.symm hh s) (by
    have r' : XRepK G.T X'.K X'.mg H x fs cls d := r
    rw [hK, hm] at r'
    exact r')
theorem rule_try {body : List PD.St} {ys : List String} {is : List Nat} {hs : List (List PD.St)} {bs : List Stmt} {h0 : ExceptHandler} {es : List ExceptHandler} {pos : Pos} (c : CxOk G X m n sc N) (hclo : G.clo = true) (hm : m.cm = true) (o : SOk X W) (hex : ∃ p, p ∈ G.T.errs)
    (hb : ∀ (pn : List (Addr × Obj)) (xe : Value → Shared → Prop) (W' : WX), Takes (X.tr pn xe) W' → PassesOwn (model X.prog X.w) X.A X.env xe → PSs (X.tr pn xe) bs (tS G (X.tr pn xe) W' (wpB C body))) (hcl : ClD G X C ys is hs (h0 :: es)) :
    L2.PS X (.Try bs (h0 :: es) [] [] pos) (tS G X W (wpS C (.tryx body ys is hs))) := by
  have hh : X.A.handled = none := (c.calm hm).2.hd
  obtain ⟨l, h1, h2⟩ := hcl.to (W := W) c hclo hh hex
  refine PS.imp (try_clauses (pos := pos) (tb := fun W' => tS G X W' (wpB C body)) (Wout := W) o.hs o.hf c.nd o.tk (fun W' pn xe tk po => PSs.imp (hb pn xe W' tk po) fun D σ H ⟨e, S, K, sr, hw, hD⟩ => ?_) h1) fun D σ H ⟨e, S, K, sr, hw, hD⟩ => ?_
  · exact ⟨e, S, K, SR.ctx (X := X) (X' := X.tr pn xe) rfl rfl rfl hh sr, hw, EndOk.ctx (X := X) (X' := X.tr pn xe) rfl rfl rfl hh hD⟩
  · exact ⟨e, S, _, sr, hw, ⟨hD.nx, hD.rt, hD.bk, hD.ct, fun x fs e' S' σ' cls d H' s' xr q => h2 K D hD x fs e' S' σ' cls d H' s' xr q⟩⟩
/-- what the making of an own error owes -/
def ErrAt (X : Cx) (x : String) (names : List String) : Prop := ∀ (es : List Expr) (t : TA) (p pos : Pos), PA X es t → es.length = names.length → (∀ a ∈ es, plainB a = true) → Gl X (os x) →
  PMk X (.Call (.Name (os x) p) es [] pos) (fun σ H Q => t σ H fun vs H1 => vs.length = names.length ∧ ∀ C, X.mg (os x) = some (.ref C) →
    (∀ dd, H1 dd = none → Q (.ref C) (some dd) (upd H1 dd (.xd ((names.map os).zip vs)))) ∧ (names = [] → Q (.ref C) none H1))
def ErrsOk (T : Tb) (P : Program) (w : World) (K : PySem.W.Frag) (mg : Str → Option Value) (base : Heap) : Prop :=
  ∀ X : Cx, X.prog = P → X.w = w → X.K = K → X.mg = mg → X.base = base → X.calm = true → Room 0 X.A → ∀ p ∈ T.errs, ErrAt X p.1 p.2
theorem repFs_zip {K : PySem.W.Frag} {mg : Str → Option Value} {H : Hp} : ∀ {fs : List String} {ds : List PD.D} {vs : List V}, Reps K mg H ds vs → fs.length = ds.length → RepFs K mg H (fs.zip ds) ((fs.map os).zip vs)
  | [], _, _, .nil, _ => .nil
  | f :: fs, _, _, .cons r t, h => .cons r (repFs_zip t (by simpa using h))
theorem rule_rse {x : String} {fs : List String} {xs : List Ex} {es : List Expr} {p cp pos : Pos} (c : CxOk G X m n sc N) (hm : m.cm = true) (o : SOk X W) (er : ErrsOk G.T X.prog X.w X.K X.mg X.base) (hx : (x, fs) ∈ G.T.errs) (hg : gloB sc (os x) = true) (hl : xs.length = fs.length)
    (ha : PEs G X W C es xs) : L2.PS X (.Raise (some (.Call (.Name (os x) p) es [] cp)) none pos) (tS G X W (wpS C (.rse x fs xs))) := by
  have mk := er X rfl rfl rfl rfl rfl (c.calm hm).1 ((c.calm hm).2.mono (Nat.zero_le _)) (x, fs) hx es _ p cp ha.pa (by rw [ha.len, hl]) ha.plain (c.gl hg)
  refine PS.imp (ps_raise (pos := pos) (c.calm hm).1 o.tk mk) fun D σ H ⟨e, S, K, sr, hw, hD⟩ => ?_
  refine ⟨e, S, _, _, sr, hw, fun vs H1 ds S1 x1 r hlen s1 q => ?_, fun x fs S' cls d H' s xr q => hD.xx x fs e S' σ cls d H' s xr q⟩
  obtain ⟨q1, q2⟩ := q
  have hz : (fs.zip ds).map (·.1) = fs := by rw [List.map_fst_zip]; omega
  refine ⟨by rw [← r.len, ← q1], fun Ca hC => ⟨fun dd hdd => ?_, fun hnil => ?_⟩⟩
  · exact hD.xx x _ e S1 σ _ _ _ (s1.new hdd) ⟨Ca, rfl, hC, by rw [hz]; exact hx, .inr ⟨dd, _, rfl, upd_same, repFs_zip (r.ext (.new hdd)) q1⟩⟩ q2
  · subst hnil
    exact hD.xx x _ e S1 σ _ _ _ s1 ⟨Ca, rfl, hC, by rw [hz]; exact hx, .inl (by simp)⟩ q2
end
/-! ### the check -/
def nodc (e : Expr) : Bool := match e with | .SetComp .. => false | .DictComp .. => false | _ => true
def noLc (e : Expr) : Bool := match e with | .SetComp .. => false | .DictComp .. => false | .ListComp .. => false | _ => true
def isComp (x : Ex) : Bool := match x with | .comp .. => true | _ => false
def parB (sc : Scope) (t : Tg) (ts vs : List Expr) (nm : List Str) : Bool :=
  match t, ts, vs, nm with
  | .t [.n i, .n j], [.Name x _, .Name y _], [_, _], [x', y'] => x == x' && y == y' && i != j && sc.names.lookup x == some .local && sc.names.lookup y == some .local
  | .t [.n i, .n j, .n l], [.Name x _, .Name y _, .Name z _], [_, _, _], [x', y', z'] => x == x' && y == y' && z == z' && i != j && i != l && j != l && sc.names.lookup x == some .local && sc.names.lookup y == some .local && sc.names.lookup z == some .local
  | _, _, _, _ => false
def asgB (sc : Scope) (t : Tg) (x : Ex) (tg e : Expr) : Bool :=
  if swB sc tg e = true then isComp x
  else match tg, e with
    | .Tuple ts _ _, .Tuple vs _ _ => (match swpO sc ts vs with | none => false | some none => true | some (some nm) => parB sc t ts vs nm)
    | _, _ => true
section
variable (T : Tb)
mutual
def chkS : PD.St → Md → Scope → List String → Stmt → Bool
  | .asg t x, m, sc, N, .Assign [tg] e _ => m.cm && plainB tg && nodc e && chkE T x m sc N e && chkT sc N t tg && asgB sc t x tg e
  | .sidx a i x, m, sc, N, .Assign [.Subscript y z _] e _ => plainB z && nodc e && chkE T x m sc N e && chkE T a m sc N y && chkE T i m sc N z
  | .aug i o x, m, sc, N, .AugAssign (.Name y _) op e _ => atB N i y && locB sc y && augB o op && chkE T x m sc N e
  | .ex x, m, sc, N, .Expr e _ => noLc e && chkE T x m sc N e
  | .pass, _, _, _, .Pass _ => true
  | .pass, _, _, _, .Expr (.Constant (.str _) _ _) _ => true
  | .ret x, m, sc, N, .Return (some e) _ => chkE T x m sc N e
  | .retn, _, _, _, .Return none _ => true
  | .ifs t a b, m, sc, N, .If c p q _ => chkE T t m sc N c && chkB a m sc N p && chkB b m sc N q
  | .for t it b, m, sc, N, .For tg iter body [] _ => m.cm && chkI T it m sc N iter && tgOk it t && chkT sc N t tg && chkB b m sc N body
  | .whl t b, m, sc, N, .While c body [] _ => chkE T t m sc N c && chkB b m sc N body
  | .rse x fs es, m, sc, N, .Raise (some (.Call (.Name y _) args [] _)) none _ => os x == y && gloB sc y && m.cm && (T.errs.any fun p => p.1 == x && p.2 == fs) && decide (es.length = fs.length) && chkL T es m sc N args
  | .tryx b xs is hs, m, sc, N, .Try body hds [] [] _ => m.cm && !hds.isEmpty && !T.errs.isEmpty && chkB b m sc N body && chkH hs xs is sc N hds
  | .brk, _, _, _, .Break _ => true
  | .cnt, _, _, _, .Continue _ => true
  | _, _, _, _, _ => false
def chkB : List PD.St → Md → Scope → List String → List Stmt → Bool
  | [], _, _, _, [] => true
  | s :: r, m, sc, N, st :: ss => chkS s m sc N st && chkB r m sc N ss
  | _, _, _, _, _ => false
def chkH : List (List PD.St) → List String → List Nat → Scope → List String → List ExceptHandler → Bool
  | [], [], [], _, _, [] => true
  | h :: hs, y :: ys, i :: is, sc, N, .ExceptHandler (some (.Name z _)) (some n) (st :: rest) _ :: es =>
      os y == z && gloB sc z && dbgB z && ((T.errs.any fun p => p.1 == y) || y == "PoolError") && atB N i n && sc.names.lookup n == some .local && chkB h ⟨false, false⟩ sc N (st :: rest) && chkH hs ys is sc N es
  | _, _, _, _, _, _ => false
end
end
end PS
set_option maxHeartbeats 4000000
/-! PS, part 31: THE SOUNDNESS OF STATEMENTS. -/
namespace PS
open PySem PySem.Spec PyProof.Rows L2 PD
section
variable {G : GT} {X : Cx} {W : WX} {m : Md} {n : Nat} {sc : Scope} {N : List String}
theorem CxOk.re (c : CxOk G X m n sc N) (Hn : Hp) : CxOk (G.at Hn) X m n sc N := ⟨c.sc, c.kind, c.nm, c.nd, c.calm, c.un, c.link, c.facts, c.lam⟩
theorem SOk.suite (o : SOk X W) (a : Addr) (pn : List (Addr × Obj)) : SOk (X.suite a pn) W0 := ⟨takes_w0, .never, o.hs, o.hf, o.fn⟩
theorem SOk.tr (o : SOk X W) {pn : List (Addr × Obj)} {xe : Value → Shared → Prop} {W' : WX} (tk : Takes (X.tr pn xe) W') (po : PassesOwn (model X.prog X.w) X.A X.env xe) : SOk (X.tr pn xe) W' := ⟨tk, po, o.hs, o.hf, o.fn⟩
theorem beq_of {x : String} {y : Str} (h : (os x == y) = true) : y = os x := (eq_of_beq h).symm
/-- a tuple's rows, by its text -/
theorem tup_parts {T : Tb} {x : Ex} {vs : List Expr} {k : Nat} {p : Pos} (h : chkE T x m sc N (.Tuple vs k p) = true) : ∃ es, x = .tup es ∧ es.length ≤ 1000 ∧ chkL T es m sc N vs = true := by
  cases x with
  | tup es =>
    have h' : (decide (es.length ≤ 1000) && chkL T es m sc N vs) = true := h
    rw [Bool.and_eq_true] at h'
    exact ⟨es, rfl, of_decide_eq_true h'.1, h'.2⟩
  | _ => exact (Bool.false_ne_true h).elim
theorem sAsg {t : Tg} {x : Ex} {tg e : Expr} {pos : Pos} (h : (m.cm && plainB tg && nodc e && chkE G.T x m sc N e && chkT sc N t tg && asgB sc t x tg e) = true) (c : CxOk G X m n sc N) (o : SOk X W) : L2.PS X (.Assign [tg] e pos) (tS G X W (wpS (CVX G X n) (.asg t x))) := by
  simp only [Bool.and_eq_true] at h
  obtain ⟨⟨⟨⟨⟨h1, h2⟩, h3⟩, h4⟩, h5⟩, h6⟩ := h
  have hsw : swapsWith e (some tg) pos.line X.env = pure (swB sc tg e) := by
    have := sw_of c.kind tg e pos.line (by cases e <;> first | rfl | cases h3)
    rw [c.sc] at this
    exact this
  have has : (assignEach [tg] X.env).map (·.2) = [assign tg X.env] := by cases tg <;> first | rfl | cases h2
  have pg := rule_tg (G := G) c.nm c.nd (c.calm h1).1 (own_fn c o) t tg h5
  unfold asgB at h6
  by_cases hb : swB sc tg e = true
  · rw [if_pos hb] at h6
    rw [hb] at hsw
    -- a comprehension straight into its name
    cases e with
    | ListComp y gens scope p =>
      cases tg with
      | Name nm q =>
        cases t with
        | n i =>
          cases x with
          | comp elt t' it ifs own =>
            have hat : (atB N i nm && locB sc nm) = true := h5
            rw [Bool.and_eq_true] at hat
            have hloc : X.env.scope.names.lookup nm = some .local := by
              have : ((sc.names.lookup nm == some .local) && (q.line == p.line) && !(scope.names.any fun (n, k) => n == nm && (k == .local || k == .cell))) = true := hb
              simp only [Bool.and_eq_true, beq_iff_eq] at this
              rw [c.sc]
              exact this.1.1
            match gens, h4 with
            | [⟨tc, i', is, ka⟩], h =>
              have h' : (decide (ka = 0) && m.cm && blkC (N.map os) sc scope (own.map fun k => ((N.map os).getD k Str.empty, k)) && chkI G.T it m sc N i' && tgOk it t' && (tgIx t').all (fun i => own.contains i) && chkT scope N t' tc && chkL G.T ifs ⟨m.cm, false⟩ (relS scope sc) N is && decide (is.length ≤ 1) && chkE G.T elt ⟨m.cm, false⟩ (relS scope sc) N y) = true := h
              simp only [Bool.and_eq_true] at h'
              obtain ⟨⟨⟨⟨⟨⟨⟨⟨⟨g0, g1⟩, g2⟩, g3⟩, g4⟩, g5⟩, g6⟩, g7⟩, g8⟩, g9⟩ := h'
              cases of_decide_eq_true g0
              have hil : ifs.length ≤ 1 := by
                rw [chkL_len g7]
                exact of_decide_eq_true g8
              refine rule_asgc (rule_setcomp c g1 g2 hil (fun i hi => List.contains_iff_mem.mp (List.all_eq_true.mp g5 i hi)) (sI it g3 g4 g6 c o.tk) g6 (folded_of g3) (fun X' c' e1 e2 e3 e4 e5 => ?_) (fun X' c' e1 e2 e3 e4 e5 => ?_) (c.at hat.1) hloc hsw)
              · rw [← cvx_eq e1 e2 e3 e4 e5]
                exact sTs ifs hil (G := G.in) (W := W0) g7 c' takes_w0
              · rw [← cvx_eq e1 e2 e3 e4 e5]
                exact sE elt (G := G.in) g9 c' takes_w0
            | [], h => exact (Bool.false_ne_true h).elim
            | ⟨_, _, _, _⟩ :: _ :: _, h => exact (Bool.false_ne_true h).elim
          | _ => cases h6
        | t ts => exact (Bool.false_ne_true h5).elim
      | _ => cases hb
    | _ => cases tg <;> cases hb
  · rw [if_neg hb] at h6
    rw [Bool.not_eq_true] at hb
    rw [hb] at hsw
    have he := sE x h4 c o.tk (W := W)
    have hs : swapsWithSole [tg] e pos.line X.env = pure false := hsw
    by_cases htt : ∃ ts k p vs k2 p2, tg = .Tuple ts k p ∧ e = .Tuple vs k2 p2
    · obtain ⟨ts, k, p, vs, k2, p2, rfl, rfl⟩ := htt
      simp only at h6
      cases hr : swpO sc ts vs with
      | none => rw [hr] at h6; cases h6
      | some r =>
        rw [hr] at h6
        have hw : swappedStores [.Tuple ts k p] (.Tuple vs k2 p2) X.env = pure r := swp_of c.kind (by rw [c.sc]; exact hr)
        cases r with
        | none => exact rule_asg he pg hs hw has
        | some nm =>
          simp only at h6
          obtain ⟨es, rfl, hel, hcl⟩ := tup_parts h4
          have hpe := sL es hcl c o.tk (W := W)
          have hlen := hpe.len
          unfold parB at h6
          split at h6
          · rename_i i j x' px y' py e1 e2 x'' y''
            simp only [Bool.and_eq_true, beq_iff_eq, bne_iff_ne, ne_eq] at h6
            obtain ⟨⟨⟨⟨a1, a2⟩, a3⟩, a4⟩, a5⟩ := h6
            subst a1 a2
            have hg : (chkTs sc N [.n i, .n j] [.Name x' px, .Name y' py]) = true := h5
            have hg' : (plainB (.Name x' px) && (atB N i x' && locB sc x') && (plainB (.Name y' py) && (atB N j y' && locB sc y') && true)) = true := hg
            simp only [Bool.and_eq_true] at hg'
            exact rule_par2 hlen.symm hpe.pa fun ha => ps_par (c.calm h1).1 c.nd (c.at hg'.1.2.1) (c.at hg'.2.1.2.1) a3 (by rw [c.sc]; exact a4) (by rw [c.sc]; exact a5) ha hw hs
          · rename_i i j l x' px y' py z' pz e1 e2 e3 x'' y'' z''
            simp only [Bool.and_eq_true, beq_iff_eq, bne_iff_ne, ne_eq] at h6
            obtain ⟨⟨⟨⟨⟨⟨⟨⟨a1, a2⟩, a3⟩, a4⟩, a5⟩, a6⟩, a7⟩, a8⟩, a9⟩ := h6
            subst a1 a2 a3
            have hg : (chkTs sc N [.n i, .n j, .n l] [.Name x' px, .Name y' py, .Name z' pz]) = true := h5
            have hg' : (plainB (.Name x' px) && (atB N i x' && locB sc x') && (plainB (.Name y' py) && (atB N j y' && locB sc y') && (plainB (.Name z' pz) && (atB N l z' && locB sc z') && true))) = true := hg
            simp only [Bool.and_eq_true] at hg'
            exact rule_par3 hlen.symm hpe.pa fun ha => ps_par3 (c.calm h1).1 c.nd (c.at hg'.1.2.1) (c.at hg'.2.1.2.1) (c.at hg'.2.2.1.2.1) a4 a5 a6 (by rw [c.sc]; exact a7) (by rw [c.sc]; exact a8) (by rw [c.sc]; exact a9) ha hw hs
          · cases h6
    · refine rule_asg he pg hs ?_ has
      cases tg with
      | Tuple ts k p => cases e with
        | Tuple vs k2 p2 => exact absurd ⟨ts, k, p, vs, k2, p2, rfl, rfl⟩ htt
        | _ => rfl
      | List ts p => cases e with
        | Tuple vs k2 p2 => cases t <;> exact (Bool.false_ne_true h5).elim
        | _ => rfl
      | _ => rfl
end
end PS
set_option maxHeartbeats 4000000
/-! PS, part 32: THE SOUNDNESS OF STATEMENTS, all. -/
namespace PS
open PySem PySem.Spec PyProof.Rows L2 PD
theorem any_of {T : Tb} {y : String} (h : ((T.errs.any fun p => p.1 == y) || y == "PoolError") = true) : (∃ q ∈ T.errs, q.1 = y) ∨ y = "PoolError" := by
  rw [Bool.or_eq_true, List.any_eq_true] at h
  rcases h with ⟨q, h1, h2⟩ | h
  · exact .inl ⟨q, h1, beq_iff_eq.mp h2⟩
  · exact .inr (beq_iff_eq.mp h)
mutual
theorem sS : ∀ (s : PD.St) {G : GT} {X : Cx} {W : WX} {m : Md} {n : Nat} {sc : Scope} {N : List String} {st : Stmt}, chkS G.T s m sc N st = true → CxOk G X m n sc N → SOk X W → G.clo = true → ErrsOk G.T X.prog X.w X.K X.mg X.base → L2.PS X st (tS G X W (wpS (CVX G X n) s))
  | .asg t x, G, X, W, m, n, sc, N, st, h, c, o, hc, er => by
    cases st with
    | Assign tgs e p =>
      match tgs, h with
      | [tg], h => exact sAsg h c o
      | [], h => exact (Bool.false_ne_true h).elim
      | _ :: _ :: _, h => exact (Bool.false_ne_true h).elim
    | _ => exact (Bool.false_ne_true h).elim
  | .sidx a i x, G, X, W, m, n, sc, N, st, h, c, o, hc, er => by
    cases st with
    | Assign tgs e p =>
      match tgs, h with
      | [.Subscript y z q], h =>
        have h' : (plainB z && nodc e && chkE G.T x m sc N e && chkE G.T a m sc N y && chkE G.T i m sc N z) = true := h
        simp only [Bool.and_eq_true] at h'
        obtain ⟨⟨⟨⟨h1, h2⟩, h3⟩, h4⟩, h5⟩ := h'
        refine rule_sidx h1 (sE x h3 c o.tk) (sE a h4 c o.tk) (sE i h5 c o.tk) ?_ rfl
        have := sw_of c.kind (.Subscript y z q) e p.line (by cases e <;> first | rfl | cases h2)
        have z' : swB X.env.scope (.Subscript y z q) e = false := by cases e <;> rfl
        rw [z'] at this
        exact this
      | [], h => exact (Bool.false_ne_true h).elim
      | a :: _ :: _, h => cases a <;> exact (Bool.false_ne_true h).elim
    | _ => exact (Bool.false_ne_true h).elim
  | .sfld a f e, G, X, W, m, n, sc, N, st, h, c, o, hc, er => by
    cases st <;> exact (Bool.false_ne_true h).elim
  | .augf a f o' e, G, X, W, m, n, sc, N, st, h, c, o, hc, er => by
    cases st <;> exact (Bool.false_ne_true h).elim
  | .aug i o' x, G, X, W, m, n, sc, N, st, h, c, o, hc, er => by
    cases st with
    | AugAssign tg op e p =>
      cases tg with
      | Name y q =>
        have h' : (atB N i y && locB sc y && augB o' op && chkE G.T x m sc N e) = true := h
        simp only [Bool.and_eq_true] at h'
        exact rule_aug c o (by rw [h'.1.1.1, h'.1.1.2]; rfl) h'.1.2 (sE x h'.2 c o.tk)
      | _ => exact (Bool.false_ne_true h).elim
    | _ => exact (Bool.false_ne_true h).elim
  | .ex x, G, X, W, m, n, sc, N, st, h, c, o, hc, er => by
    cases st with
    | Expr e p =>
      have h' : (noLc e && chkE G.T x m sc N e) = true := h
      rw [Bool.and_eq_true] at h'
      exact rule_ex (sE x h'.2 c o.tk) (by have := h'.1; cases e <;> first | rfl | cases this)
    | _ => exact (Bool.false_ne_true h).elim
  | .pass, G, X, W, m, n, sc, N, st, h, c, o, hc, er => by
    cases st with
    | Pass p => exact rule_pass
    | Expr e p =>
      cases e with
      | Constant k j q =>
        cases k with
        | str s => exact rule_doc
        | _ => exact (Bool.false_ne_true h).elim
      | _ => exact (Bool.false_ne_true h).elim
    | _ => exact (Bool.false_ne_true h).elim
  | .ret x, G, X, W, m, n, sc, N, st, h, c, o, hc, er => by
    cases st with
    | Return e p =>
      cases e with
      | none => exact (Bool.false_ne_true h).elim
      | some e => exact rule_ret (sE x h c o.tk)
    | _ => exact (Bool.false_ne_true h).elim
  | .retn, G, X, W, m, n, sc, N, st, h, c, o, hc, er => by
    cases st with
    | Return e p =>
      cases e with
      | none => exact rule_retn
      | some e => exact (Bool.false_ne_true h).elim
    | _ => exact (Bool.false_ne_true h).elim
  | .ifs t a b, G, X, W, m, n, sc, N, st, h, c, o, hc, er => by
    cases st with
    | If e p q r =>
      have h' : (chkE G.T t m sc N e && chkB G.T a m sc N p && chkB G.T b m sc N q) = true := h
      simp only [Bool.and_eq_true] at h'
      exact rule_if (sT t h'.1.1 c o.tk).1 (sB a h'.1.2 c o hc er) (sB b h'.2 c o hc er)
    | _ => exact (Bool.false_ne_true h).elim
  | .for t it b, G, X, W, m, n, sc, N, st, h, c, o, hc, er => by
    cases st with
    | For tg iter body orelse p =>
      cases orelse with
      | nil =>
        have h' : (m.cm && chkI G.T it m sc N iter && tgOk it t && chkT sc N t tg && chkB G.T b m sc N body) = true := h
        simp only [Bool.and_eq_true] at h'
        obtain ⟨⟨⟨⟨h1, h2⟩, h3⟩, h4⟩, h5⟩ := h'
        exact rule_for o.po (c.calm h1).1 (sI it h2 h3 h4 c o.tk) (fun Hn => rule_tg (G := G.at Hn) c.nm c.nd (c.calm h1).1 (own_fn c o) t tg h4)
          (fun Hn => sB b (G := G.at Hn) h5 (c.re Hn) o hc er) (folded_of h2)
      | cons _ _ => exact (Bool.false_ne_true h).elim
    | _ => exact (Bool.false_ne_true h).elim
  | .whl t b, G, X, W, m, n, sc, N, st, h, c, o, hc, er => by
    cases st with
    | While e body orelse p =>
      cases orelse with
      | nil =>
        have h' : (chkE G.T t m sc N e && chkB G.T b m sc N body) = true := h
        rw [Bool.and_eq_true] at h'
        exact rule_whl o.po (sT t h'.1 c o.tk).1 (sB b h'.2 c o hc er)
      | cons _ _ => exact (Bool.false_ne_true h).elim
    | _ => exact (Bool.false_ne_true h).elim
  | .rse x fs es, G, X, W, m, n, sc, N, st, h, c, o, hc, er => by
    cases st with
    | Raise e cause p =>
      match e, cause, h with
      | some (.Call (.Name y q) args [] cp), none, h =>
        have h' : (os x == y && gloB sc y && m.cm && (G.T.errs.any fun p => p.1 == x && p.2 == fs) && decide (es.length = fs.length) && chkL G.T es m sc N args) = true := h
        simp only [Bool.and_eq_true] at h'
        obtain ⟨⟨⟨⟨⟨h1, h2⟩, h3⟩, h4⟩, h5⟩, h6⟩ := h'
        cases os_eq h1
        obtain ⟨pr, hp, h7⟩ := List.any_eq_true.mp h4
        rw [Bool.and_eq_true, beq_iff_eq, beq_iff_eq] at h7
        have hx : (x, fs) ∈ G.T.errs := by
          obtain ⟨a, b⟩ := pr
          obtain ⟨z1, z2⟩ := h7
          have z1 : a = x := z1
          have z2 : b = fs := z2
          subst z1 z2
          exact hp
        exact rule_rse c h3 o er hx h2 (of_decide_eq_true h5) (sL es h6 c o.tk)
      | none, _, h => exact (Bool.false_ne_true h).elim
      | some e, some _, h =>
        cases e with
        | Call f args ks cp => cases f <;> first | exact (Bool.false_ne_true h).elim | (cases ks <;> exact (Bool.false_ne_true h).elim)
        | _ => exact (Bool.false_ne_true h).elim
    | _ => exact (Bool.false_ne_true h).elim
  | .tryx b xs is hs, G, X, W, m, n, sc, N, st, h, c, o, hc, er => by
    cases st with
    | Try body hds orelse fin p =>
      cases orelse with
      | nil =>
        cases fin with
        | nil =>
          have h' : (m.cm && !hds.isEmpty && !G.T.errs.isEmpty && chkB G.T b m sc N body && chkH G.T hs xs is sc N hds) = true := h
          simp only [Bool.and_eq_true] at h'
          obtain ⟨⟨⟨⟨h1, h2⟩, h3⟩, h4⟩, h5⟩ := h'
          have hcl := sH hs h5 c o hc er
          cases hds with
          | nil => cases h2
          | cons h0 hds =>
            have hex : ∃ p, p ∈ G.T.errs := by
              cases hz : G.T.errs with
              | nil => rw [hz] at h3; cases h3
              | cons p l => exact ⟨p, List.mem_cons_self⟩
            exact rule_try c hc h1 o hex (fun pn xe W' tk po => sB b (X := X.tr pn xe) h4 (c.tr pn xe) (o.tr tk po) hc er) hcl
        | cons _ _ => exact (Bool.false_ne_true h).elim
      | cons _ _ => exact (Bool.false_ne_true h).elim
    | _ => exact (Bool.false_ne_true h).elim
  | .brk, G, X, W, m, n, sc, N, st, h, c, o, hc, er => by
    cases st with
    | Break p => exact rule_brk
    | _ => exact (Bool.false_ne_true h).elim
  | .cnt, G, X, W, m, n, sc, N, st, h, c, o, hc, er => by
    cases st with
    | Continue p => exact rule_cnt
    | _ => exact (Bool.false_ne_true h).elim
theorem sB : ∀ (b : List PD.St) {G : GT} {X : Cx} {W : WX} {m : Md} {n : Nat} {sc : Scope} {N : List String} {ss : List Stmt}, chkB G.T b m sc N ss = true → CxOk G X m n sc N → SOk X W → G.clo = true → ErrsOk G.T X.prog X.w X.K X.mg X.base → PSs X ss (tS G X W (wpB (CVX G X n) b))
  | [], G, X, W, m, n, sc, N, ss, h, c, o, hc, er => by
    cases ss with
    | nil => exact rule_nil
    | cons _ _ => exact (Bool.false_ne_true h).elim
  | s :: r, G, X, W, m, n, sc, N, ss, h, c, o, hc, er => by
    cases ss with
    | nil => exact (Bool.false_ne_true h).elim
    | cons st ss =>
      have h' : (chkS G.T s m sc N st && chkB G.T r m sc N ss) = true := h
      rw [Bool.and_eq_true] at h'
      exact rule_cons (sS s h'.1 c o hc er) (sB r h'.2 c o hc er)
theorem sH : ∀ (hs : List (List PD.St)) {G : GT} {X : Cx} {W : WX} {m : Md} {n : Nat} {sc : Scope} {N : List String} {ys : List String} {is : List Nat} {es : List ExceptHandler}, chkH G.T hs ys is sc N es = true → CxOk G X m n sc N → SOk X W → G.clo = true → ErrsOk G.T X.prog X.w X.K X.mg X.base → ClD G X (CVX G X n) ys is hs es
  | [], G, X, W, m, n, sc, N, ys, is, es, h, c, o, hc, er => by
    match ys, is, es, h with
    | [], [], [], h => exact .nil
    | _ :: _, _, _, h => exact (Bool.false_ne_true h).elim
    | [], _ :: _, _, h => exact (Bool.false_ne_true h).elim
    | [], [], _ :: _, h => exact (Bool.false_ne_true h).elim
  | b :: hs, G, X, W, m, n, sc, N, ys, is, es, h, c, o, hc, er => by
    match ys, is, es, h with
    | y :: ys, i :: is, .ExceptHandler (some (.Name z np)) (some nm) (st :: rest) hp :: es, h =>
      have h' : (os y == z && gloB sc z && dbgB z && ((G.T.errs.any fun p => p.1 == y) || y == "PoolError") && atB N i nm && sc.names.lookup nm == some .local && chkB G.T b ⟨false, false⟩ sc N (st :: rest) && chkH G.T hs ys is sc N es) = true := h
      simp only [Bool.and_eq_true] at h'
      obtain ⟨⟨⟨⟨⟨⟨⟨h1, h2⟩, h3⟩, h4⟩, h5⟩, h6⟩, h7⟩, h8⟩ := h'
      cases os_eq h1
      have hloc : X.env.scope.names.lookup nm = some .local := by
        rw [c.sc]
        exact beq_iff_eq.mp h6
      exact .cons (any_of h4) (c.gl h2) (dbgB_ok h3).1 (c.at h5) hloc (fun a pn => sB b (X := X.suite a pn) h7 (c.suite a pn) (o.suite a pn) hc er) (sH hs h8 c o hc er)
    | [], _, _, h => exact (Bool.false_ne_true h).elim
    | _ :: _, [], _, h => exact (Bool.false_ne_true h).elim
    | _ :: _, _ :: _, [], h => exact (Bool.false_ne_true h).elim
    | _ :: _, _ :: _, .ExceptHandler none _ _ _ :: _, h => exact (Bool.false_ne_true h).elim
    | _ :: _, _ :: _, .ExceptHandler (some e) none _ _ :: _, h => cases e <;> exact (Bool.false_ne_true h).elim
    | _ :: _, _ :: _, .ExceptHandler (some e) (some _) [] _ :: _, h => cases e <;> exact (Bool.false_ne_true h).elim
end
end PS
set_option maxHeartbeats 2000000
/-! PS, part 33: calls keep to what calls by levels owe: defs. -/
namespace PS
open PySem PySem.Spec PyProof.Rows L2 PD
section
variable {T : Tb} {tabs : List (Addr × Str)} {P : Program} {w : World} {K : PySem.W.Frag} {mg : Str → Option Value} {base : Heap} {n : Nat}
theorem cv_mono {a : AV} {as : List AV} {S : Sto} {Q Q' : QV} {E E' : QX} (h : CV T tabs P w K mg base n a as S Q E) (hQ : ∀ d S', Q d S' → Q' d S') (hE : ∀ x fs S', E x fs S' → E' x fs S') : CV T tabs P w K mg base n a as S Q' E' :=
  ⟨h.1, fun A outer s H u ar vs us Qr Er hr e0 hc ha r rv tb st post epost => h.2 A outer s H u ar vs us Qr Er hr e0 hc ha r rv tb st (fun v H' d S' x t s' rd q => post v H' d S' x t s' rd (hQ d S' q)) fun x fs S' cls d H' xe t s' xr q => epost x fs S' cls d H' xe t s' xr (hE x fs S' q)⟩
theorem cv_weak {a : AV} {as : List AV} {S : Sto} {Q : QV} {E : QX} (h : CV T tabs P w K mg base n a as S (fun d S' => ∃ S'', (∀ b o, S'' b = some o → S' b = some o) ∧ Q d S'') (fun x fs S' => ∃ S'', (∀ b o, S'' b = some o → S' b = some o) ∧ E x fs S'')) : CV T tabs P w K mg base n a as S Q E :=
  ⟨h.1, fun A outer s H u ar vs us Qr Er hr e0 hc ha r rv tb st post epost => h.2 A outer s H u ar vs us Qr Er hr e0 hc ha r rv tb st (fun v H' d S' x t s' rd ⟨S'', k, q⟩ => post v H' d S'' x t (s'.mono k) rd q) fun x fs S' cls d H' xe t s' xr ⟨S'', k, q⟩ => epost x fs S'' cls d H' xe t (s'.mono k) xr q⟩
/-- a def's text is what its deep syntax says -/
structure DefOk (T : Tb) (tabs : List (Addr × Str)) (K : PySem.W.Frag) (mg : Str → Option Value) (base : Heap) (f : String) (F : FnD) : Prop where
  ex : ∃ (fa : Addr) (name qual : Str) (params : Arguments) (body : List Stmt) (scope : Scope) (dV kV doc pm cdv ct oc : Value) (an od : Option Addr) (osl : Array (Option Value)) (lm : Bool),
    FnIn K mg F f fa (PySem.W.fnOf name qual params body scope dV kV doc pm an cdv ct) ∧ K.lookup fa = some ⟨oc, od, .func (PySem.W.fnOf name qual params body scope dV kV doc pm an cdv ct), osl⟩ ∧ PySem.W.codeIn K cdv qual = true ∧
    FnScope (F.N.map os) (F.ps.map os) scope ∧ chkB T F.body ⟨true, lm⟩ scope F.N body = true ∧
    (lm = true → ∃ c Pt, cdv = .ref c ∧ LamX.TabB base mg c Pt ∧ ∀ L, (Pt, (envOfC qual scope L fa cdv).qual ++ "<lambda>") ∈ tabs ∧ ∀ p ∈ tabs, p.1 = Pt → p.2 = (envOfC qual scope L fa cdv).qual ++ "<lambda>")
theorem RepVs.get {hp : Heap} {H : Hp} : ∀ {as : List AV} {vs : List V} {i : Nat} {a : AV}, RepVs T K mg hp H as vs → as[i]? = some a → ∃ v, vs[i]? = some v ∧ RepV T K mg hp H a v
  | _, _, _, _, .nil, e => by simp at e
  | _, _, 0, _, .cons r _, e => by simp at e; subst e; exact ⟨_, rfl, r⟩
  | _, _, i + 1, _, .cons _ t, e => by
    obtain ⟨v, h1, h2⟩ := RepVs.get t (i := i) (by simpa using e)
    exact ⟨v, by simpa using h1, h2⟩
theorem cv_fn (ft : Facts T K mg) (er : ErrsOk T P w K mg base) {f : String} {F : FnD} (hF : T.fns.lookup f = some F) (hd : DefOk T tabs K mg base f F) {as : List AV} {S : Sto} {Q : QV} {E : QX} (hl : as.length = F.ps.length)
    (hw : wpB (CV T tabs P w K mg base n) F.body (endsOf Q E) (startE F as) S) : CV T tabs P w K mg base (n + 1) (.d (.fn f)) as S Q E := by
  refine ⟨fns_fn hF, fun A outer s H u ar vs us Qr Er hr e0 hc ha r rv tb st post epost => ?_⟩
  obtain ⟨fa, name, qual, params, body, scope, dV, kV, doc, pm, cdv, ct, oc, an, od, osl, lm, fi, lk, hcd, FS, hck, hlm⟩ := hd.ex
  obtain ⟨a, rfl, hmg⟩ := hc
  rw [fi.at_] at hmg
  cases hmg
  have hvl : vs.length = F.ps.length := by rw [← r.len, hl]
  have hul : us.length = F.ps.length := by rw [← rv.length, hvl]
  refine LamX.run_ofS (CX := L2.CX P w) (N := F.N.map os) (ps := F.ps.map os) (us := us) (vs := vs) lk hcd FS hr e0 (ha F fa _ hF fi hul) rv (by rw [List.length_map]; exact hvl) fun hr' => ?_
  refine ⟨tS { T := T, tabs := tabs, hp := s.heap, H0 := H, Hx := H, clo := true } (cxOf (L2.CX P w) P w K mg base (F.N.map os) qual scope fa cdv A outer s H Er) (fun cls d _ H' => Er cls d H') (wpB (CV T tabs P w K mg base n) F.body), ?_, ?_⟩
  · refine sB F.body (G := { T := T, tabs := tabs, hp := s.heap, H0 := H, Hx := H, clo := true }) (X := cxOf (L2.CX P w) P w K mg base (F.N.map os) qual scope fa cdv A outer s H Er) (m := ⟨true, lm⟩) (n := n) hck ?_ ⟨L2.takes_of rfl rfl rfl rfl, L2.passes_of rfl, rfl, rfl, fun _ => rfl⟩ rfl er
    refine ⟨rfl, FS.kind, rfl, FS.nd, fun _ => ⟨rfl, hr'⟩, ?_, fun _ => ⟨rfl, rfl, rfl⟩, ft, fun z => ?_⟩
    · have := hr'.un
      show (A.deeper (envOfC qual scope s.heap.objs.size fa cdv)).units + 65 < cLine
      omega
    · obtain ⟨c, Pt, h1, h2, h3⟩ := hlm z
      exact ⟨rfl, c, Pt, h1, h2, (h3 s.heap.objs.size).1, (h3 s.heap.objs.size).2⟩
  · have hN : F.ps.length ≤ F.N.length := by
      have := congrArg List.length FS.pre
      rw [List.length_take, List.length_map, List.length_map] at this
      omega
    refine ⟨startE F as, S, endsOf Q E, ⟨.refl H, .refl H, tb, ?_, ?_, fun i a q => ?_, st, fun z => (by cases z)⟩, hw, ?_⟩
    · show (startE F as).length = (F.N.map os).length
      unfold startE
      rw [List.length_append, List.length_map, List.length_replicate, List.length_map]
      omega
    · show (L2.start (F.N.map os) vs).length = (F.N.map os).length
      unfold L2.start
      rw [List.length_append, List.length_map, List.length_replicate, List.length_map]
      omega
    · have hi : i < as.length := by
        unfold startE at q
        by_cases hi : i < as.length
        · exact hi
        · rw [List.getElem?_append_right (by simpa using hi), List.getElem?_replicate] at q
          split at q <;> cases q
      have ha' : as[i]? = some a := by
        unfold startE at q
        rw [List.getElem?_append_left (by simpa using hi), List.getElem?_map] at q
        cases e : as[i]? with
        | none => rw [e] at q; cases q
        | some b => rw [e] at q; cases q; rfl
      obtain ⟨v, h1, h2⟩ := r.get ha'
      refine ⟨v, ?_, ?_⟩
      · unfold L2.start
        rw [List.getElem?_append_left (by rw [List.length_map, ← r.len]; exact hi), List.getElem?_map, h1]
        rfl
      · cases a with
        | d x => exact h2
        | clo ps fr b cs ds => exact h2
        | exc x fs => exact h2.elim
    · exact ⟨fun σ H' e S' s' q => post .non H' .non S' s'.exx s'.tab s'.sto .non q, fun σ v H' e d S' s' rd q => post v H' d S' s'.exx s'.tab s'.sto rd q, fun σ H' e S' s' q => q.elim, fun σ H' e S' s' q => q.elim,
        fun x fs e S' σ cls d H' s' xr q => epost x fs S' cls d H' s'.exx s'.tab s'.sto xr q⟩
end
end PS
set_option maxHeartbeats 2000000
/-! PS, part 34: calls keep to what calls by levels owe: closures. -/
namespace PS
open PySem PySem.Spec PyProof.Rows L2 PD
section
variable {T : Tb} {tabs : List (Addr × Str)} {P : Program} {w : World} {K : PySem.W.Frag} {mg : Str → Option Value} {base : Heap} {n : Nat}
/-- the context of a lambda's body -/
def lamC (P : Program) (w : World) (K : PySem.W.Frag) (mg : Str → Option Value) (base : Heap) (N : List Str) (qual : Str) (scope : Scope) (f c' : Addr) (cells : List (Str × Addr)) (A : Around) (outer : List PySem.Env) (s : Shared) (H : Hp) (E : XK) : Cx where
  prog := P
  w := w
  K := K
  mg := mg
  base := base
  A := A.deeper (PySem.W.envX qual scope s.heap.objs.size f (.ref c') cells)
  N := N
  s_0 := s
  H_0 := H
  env := PySem.W.envX qual scope s.heap.objs.size f (.ref c') cells
  outer := outer
  stack := PySem.W.envX qual scope s.heap.objs.size f (.ref c') cells :: outer
  ex := []
  fn := fun _ => false
  calm := true
  pn := []
  xe := fun e s' => wpAny (model P w) (A.deeper (PySem.W.envX qual scope s.heap.objs.size f (.ref c') cells)) (leaving (PySem.W.envX qual scope s.heap.objs.size f (.ref c') cells) e) (fun _ s'' => L2.CX P w outer H s E e s'') (fun e' s'' => L2.CX P w outer H s E e' s'') s'
/-- what a closure captured, slot by slot -/
theorem CapsAt.get {hp : Heap} {H : Hp} : ∀ {fr : List String} {cells : List (Str × Addr)} {caps : List AV} {j : Nat} {x : String}, CapsAt T K mg hp H fr cells caps → fr[j]? = some x →
    ∃ c a v u, cells.lookup (os x) = some c ∧ caps[j]? = some a ∧ hp.IsCell c (some u) ∧ H c = none ∧ RelV v u ∧ RepV T K mg hp H a v
  | _, _, _, _, _, .nil, e => by simp at e
  | _, _, _, 0, _, .d hc hi hf r q t, e => by simp at e; subst e; exact ⟨_, _, _, _, hc, rfl, hi, hf, r, q⟩
  | _, _, _, 0, _, .c (a := a) hc hi hf q t, e => by
    simp at e
    subst e
    refine ⟨_, _, .ref _, _, hc, rfl, hi, hf, rfl, ?_⟩
    cases q with
    | mk h1 h2 h3 h4 h5 h6 h7 h8 => exact ⟨_, rfl, .mk h1 h2 h3 h4 h5 h6 h7 h8⟩
  | _, _, _, j + 1, _, .d hc hi hf r q t, e => by
    obtain ⟨c, a, v, u, h1, h2, h3⟩ := CapsAt.get t (j := j) (by simpa using e)
    exact ⟨c, a, v, u, h1, by simpa using h2, h3⟩
  | _, _, _, j + 1, _, .c hc hi hf q t, e => by
    obtain ⟨c, a, v, u, h1, h2, h3⟩ := CapsAt.get t (j := j) (by simpa using e)
    exact ⟨c, a, v, u, h1, by simpa using h2, h3⟩
theorem CapsAt.len {hp : Heap} {H : Hp} : ∀ {fr : List String} {cells : List (Str × Addr)} {caps : List AV}, CapsAt T K mg hp H fr cells caps → fr.length = caps.length
  | _, _, _, .nil => rfl
  | _, _, _, .d _ _ _ _ _ t => congrArg (· + 1) t.len
  | _, _, _, .c _ _ _ _ t => congrArg (· + 1) t.len
end
end PS
set_option maxHeartbeats 2000000
/-! PS, part 35: a closure's call. -/
namespace PS
open PySem PySem.Spec PyProof.Rows L2 PD
section
variable {T : Tb} {tabs : List (Addr × Str)} {P : Program} {w : World} {K : PySem.W.Frag} {mg : Str → Option Value} {base : Heap} {n : Nat}
/-- the values that a closure's call binds -/
theorem clo_binds {hp : Heap} {H : Hp} {ps : List String} {dfl : List PD.D} {dV : Value} {fd : FuncData} (hpar : argsB fd.params ps dfl.length = true) (hdv : fd.defaults = dV) (nd : (ps.map os).Nodup) (hd : DflAt K mg hp H dV dfl) {s : Shared} (hs : s.heap = hp) (us : List Value) (h1 : us.length ≤ ps.length) (h2 : ps.length ≤ us.length + dfl.length) :
    ∃ its vs, Vals vs its ∧ Reps K mg H (dfl.drop (dfl.length - (ps.length - us.length))) vs ∧ us.length + its.length = ps.length ∧ BindsTo s fd ⟨us, []⟩ ((ps.map os).zip (us ++ its)) := by
  obtain ⟨p1, p2, p3, _, p5, p6, _, p8⟩ := args_of hpar
  rcases hd with ⟨d0, hv⟩ | ⟨t, o, its, k, vs, hv, hk, ho, ne, hdne, r, q⟩
  · subst d0
    have hl : us.length = ps.length := by simp at h2; omega
    refine ⟨[], [], .nil, by simpa using Reps.nil, by simpa using hl, ?_⟩
    obtain ⟨k, e1, e2⟩ := bind_plain p1 p2 p3 p5 p6 nd us [] [] (by rw [List.length_map]; simp; omega) (Nat.zero_le _) (by rw [List.length_map]; simp; omega)
    refine .of_eq ?_
    rw [List.zip_nil_right] at e1
    rw [e1, hdv, hv]
    have e3 : seqItems? Value.none = pure none := rfl
    rw [e3, pure_bind, e2 none rfl]
    simp
  · have hlen : its.length = dfl.length := by rw [← r.length, ← q.len]
    obtain ⟨k', e1, e2⟩ := bind_plain p1 p2 p3 p5 p6 nd us [] its (by rw [List.length_map]; simp; omega) (by rw [List.length_map, hlen]; exact p8) (by rw [List.length_map, hlen]; simp; omega)
    rw [List.zip_nil_right] at e1
    have e4 : us.length + ([] : List Value).length - ((ps.map os).length - its.length) = dfl.length - (ps.length - us.length) := by
      rw [List.length_map, hlen]
      simp
      omega
    refine ⟨its.drop (dfl.length - (ps.length - us.length)), vs.drop (dfl.length - (ps.length - us.length)), r.drop _, q.drop _, by rw [List.length_drop, hlen]; omega, ?_⟩
    refine BindsTo.of_defaults (hdv.trans hv) (by rw [hs]; exact hk) ho e1 ?_
    rw [e2 (some its.toArray) (by simp), e4]
    simp
/-- a row of distinct names, looked up from behind -/
theorem rev_look {ps : List Str} (nd : ps.Nodup) {us : List Value} (hl : us.length = ps.length) {i : Nat} {x : Str} {u : Value} (h1 : ps[i]? = some x) (h2 : us[i]? = some u) : (ps.zip us).reverse.lookup x = some u := by
  induction ps generalizing us i with
  | nil => simp at h1
  | cons p ps ih =>
    cases us with
    | nil => simp at hl
    | cons v us =>
      rw [List.zip_cons_cons, List.reverse_cons, List.lookup_append]
      cases i with
      | zero =>
        simp at h1 h2
        subst h1 h2
        have : (ps.zip us).reverse.lookup p = none := by
          rw [List.lookup_eq_none_iff]
          intro q hq
          have hm := (List.of_mem_zip (List.mem_reverse.mp hq)).1
          have hne : p ≠ q.1 := fun z => (List.nodup_cons.mp nd).1 (by rw [z]; exact hm)
          first
            | simpa using hne
            | simpa using Ne.symm hne
        rw [this]
        simp
      | succ i =>
        rw [ih (List.nodup_cons.mp nd).2 (by simpa using hl) (by simpa using h1) (by simpa using h2)]
        rfl
end
end PS
set_option maxHeartbeats 2000000
/-! PS, part 36: closures keep to what calls by levels owe. -/
namespace PS
open PySem PySem.Spec PyProof.Rows L2 PD
section
variable {T : Tb} {tabs : List (Addr × Str)} {P : Program} {w : World} {K : PySem.W.Frag} {mg : Str → Option Value} {base : Heap} {n : Nat}
/-- the captured values, slot by slot -/
theorem CapsAt.vals {hp : Heap} {H : Hp} : ∀ {fr : List String} {cells : List (Str × Addr)} {caps : List AV}, CapsAt T K mg hp H fr cells caps →
    ∃ cv : List V, cv.length = fr.length ∧ ∀ (j : Nat) (y : String), fr[j]? = some y → ∃ c a v u, cells.lookup (os y) = some c ∧ caps[j]? = some a ∧ cv[j]? = some v ∧ hp.IsCell c (some u) ∧ H c = none ∧ RelV v u ∧ RepV T K mg hp H a v
  | _, _, _, .nil => ⟨[], rfl, fun j y h => by simp at h⟩
  | _, _, _, .d (v := v) hc hi hf r q t => by
    obtain ⟨cv, h1, h2⟩ := CapsAt.vals t
    refine ⟨v :: cv, congrArg (· + 1) h1, fun j y h => ?_⟩
    cases j with
    | zero => simp at h; subst h; exact ⟨_, _, v, _, hc, rfl, rfl, hi, hf, r, q⟩
    | succ j =>
      obtain ⟨c, a, v, u, k1, k2, k3, k4⟩ := h2 j y (by simpa using h)
      exact ⟨c, a, v, u, k1, by simpa using k2, by simpa using k3, k4⟩
  | _, _, _, .c (f := f) (a := a) hc hi hf q t => by
    obtain ⟨cv, h1, h2⟩ := CapsAt.vals t
    refine ⟨.ref f :: cv, congrArg (· + 1) h1, fun j y h => ?_⟩
    cases j with
    | zero =>
      simp at h
      subst h
      refine ⟨_, a, .ref f, _, hc, rfl, rfl, hi, hf, rfl, ?_⟩
      cases q with
      | mk h1 h2 h3 h4 h5 h6 h7 h8 => exact ⟨_, rfl, .mk h1 h2 h3 h4 h5 h6 h7 h8⟩
    | succ j =>
      obtain ⟨c, a, v, u, k1, k2, k3, k4⟩ := h2 j y (by simpa using h)
      exact ⟨c, a, v, u, k1, by simpa using k2, by simpa using k3, k4⟩
theorem cv_lam (ft : Facts T K mg) {ps fr : List String} {b : Ex} {caps : List AV} {dfl : List PD.D} {as : List AV} {S : Sto} {Q : QV} {E : QX} (h1 : as.length ≤ ps.length) (h2 : ps.length ≤ as.length + dfl.length)
    (hw : wpE (CV T tabs P w K mg base n) b (startL ps as dfl caps) S Q E) : CV T tabs P w K mg base (n + 1) (.clo ps fr b caps dfl) as S Q E := by
  refine ⟨trivial, fun A outer s H u ar vs us Qr Er hr e0 hc ha r rv tb st post epost => ?_⟩
  obtain ⟨f, rfl, hclo⟩ := hc
  have ha : ar = ⟨us, []⟩ := ha
  subst ha
  cases hclo with
  | @mk _ _ _ _ _ _ qual params body scope cells dV doc pm c' ctv sl ho hf hco hb inj keys hd cap =>
  have hvl : as.length = us.length := by rw [r.len, rv.length]
  have hb' := hb
  unfold lamB at hb'
  simp only [Bool.and_eq_true, Bool.not_eq_true', decide_eq_true_eq] at hb'
  obtain ⟨⟨⟨⟨⟨⟨⟨⟨b1, b2⟩, b3⟩, b4⟩, b5⟩, b6⟩, b7⟩, b8⟩, b9⟩ := hb'
  have nd : (ps.map os ++ fr.map os).Nodup := b6
  have ndp : (ps.map os).Nodup := (List.nodup_append.mp nd).1
  have nocell : ∀ y ∈ scope.names, y.2 ≠ .cell := fun y hy z => by
    have := List.all_eq_true.mp b9 y hy
    rw [z] at this
    cases this
  obtain ⟨its, dvs, d1, d2, d3, hbind⟩ := clo_binds (fd := { PySem.W.kla_fn "<lambda>" qual params body scope cells pm (.ref c') ctv with defaults := dV, doc := doc }) b1 rfl ndp hd rfl us (by rw [← hvl]; exact h1) (by rw [← hvl]; exact h2)
  obtain ⟨⟨oc, ovs, ot, g1, g2, g3⟩, _, _⟩ := e0.hok c' _ hco
  have lim : s.heap.NoLimit := e0.mod.nolimit.keeps fun b o e => (e0.bs b o e).1
  have hlen : (us ++ its).length = (ps.map os).length := by rw [List.length_append, List.length_map]; exact d3
  have hbl : ∀ y ∈ (ps.map os).zip (us ++ its), scope.names.lookup y.1 = some .local := fun y hy => by
    have hm := (List.of_mem_zip (show (y.1, y.2) ∈ _ from hy)).1
    obtain ⟨p, hp, e⟩ := List.mem_map.mp hm
    have := of_decide_eq_true (List.all_eq_true.mp b7 p hp)
    rw [← e]
    exact this
  refine PySem.W.kla_callFunE hr.depth ho rfl b4 b5 rfl ⟨c', oc, ovs, ot, rfl, g1, g2, g3⟩ (hbind _ _ _ _ ?_)
  refine wpAny_newFunctionEnv nocell hbl (fun h₁ hns hsb => ⟨lim.fresh _ hsb, ?_⟩) b3
  show codeAny _ _ (.expr body (PySem.W.envX qual scope s.heap.objs.size f (.ref c') cells)) _ _
  have kp : ∀ b o, s.heap.get? b = some o → h₁.get? b = some o := fun b o e => hsb.extBut b o (Nat.ne_of_lt (Heap.lt_size e)) (Heap.get?_push_of_some _ e)
  have noA : ∀ b : Addr, b ∉ (lamC P w K mg base ((ps ++ fr).map os) qual scope f c' cells A outer s H Er).ex := fun b z => absurd (show b ∈ ([] : List Addr) from z) (by simp)
  -- what stands in a captured name's cell
  have capAt : ∀ x c, cells.lookup x = some c → ∃ j y a v u, fr[j]? = some y ∧ x = os y ∧ caps[j]? = some a ∧ s.heap.IsCell c (some u) ∧ H c = none ∧ RelV v u ∧ RepV T K mg s.heap H a v := fun x c hx => by
    obtain ⟨y, hy, rfl⟩ := keys x c hx
    obtain ⟨j, hj⟩ := List.mem_iff_getElem?.mp hy
    obtain ⟨c2, a, v, u, k1, k2, k3, k4, k5, k6⟩ := cap.get hj
    rw [hx] at k1
    cases k1
    exact ⟨j, y, a, v, u, hj, rfl, k2, k3, k4, k5, k6⟩
  obtain ⟨cv, cvl, hcv⟩ := cap.vals
  have hN : ∀ (i : Nat) (x : Str), ((ps ++ fr).map os)[i]? = some x → (i < ps.length ∧ (ps.map os)[i]? = some x) ∨ ∃ j y, i = ps.length + j ∧ fr[j]? = some y ∧ x = os y := fun i x h => by
    rw [List.map_append] at h
    by_cases hi : i < ps.length
    · rw [List.getElem?_append_left (by rw [List.length_map]; exact hi)] at h
      exact .inl ⟨hi, h⟩
    · rw [List.getElem?_append_right (by rw [List.length_map]; omega), List.length_map, List.getElem?_map] at h
      cases q : fr[i - ps.length]? with
      | none => rw [q] at h; cases h
      | some y => rw [q] at h; cases h; exact .inr ⟨i - ps.length, y, by omega, q, rfl⟩
  have dvl : (vs ++ dvs).length = ps.length := by rw [List.length_append, rv.length, d1.length]; exact d3
  have I : Inv (lamC P w K mg base ((ps ++ fr).map os) qual scope f c' cells A outer s H Er) [] (((vs ++ dvs) ++ cv).map some) H { s with heap := h₁, toks := s.toks + ((ps.map os).zip (us ++ its)).length } := by
    refine ⟨⟨e0.mod, b3, rfl, rfl, Nat.le_refl _, inj, fun y hy => ?_, fun y c z _ => (by cases z), fun _ => hr.hd, Around.frames_deeper e0.frames, .inr ⟨rfl, rfl⟩, fun b z => absurd z (noA b), e0.bs, e0.bsz, fun b _ _ => noA b, fun b z => absurd z (noA b), e0.funs, e0.frf⟩,
      rfl, e0.bare, Un.kept kp, ⟨_, hns, fun i x v e1 e2 e3 => ?_⟩, fun x c hx => ?_, e0.hok.fresh (Nat.le_refl _), fun x c hx => ?_, fun q hq => absurd (show q ∈ ([] : List (Addr × Obj)) ++ [] from hq) (by simp), e0.hok.kept kp, ?_⟩
    · have hy : scope.names.lookup y = some .cell ∨ scope.names.lookup y = some .free := hy
      rcases hy with hy | hy
      · exact absurd rfl (nocell _ (PySem.mem_of_lookup hy))
      · have := List.all_eq_true.mp b9 _ (PySem.mem_of_lookup hy)
        simp only [List.any_eq_true, beq_iff_eq] at this
        obtain ⟨x, hx, e⟩ := this
        obtain ⟨j, hj⟩ := List.mem_iff_getElem?.mp hx
        obtain ⟨c, _, _, _, k1, _⟩ := hcv j x hj
        rw [e] at k1
        exact ⟨c, k1⟩
    · rcases hN i x e1 with ⟨hi, hp⟩ | ⟨j, y, rfl, hj, rfl⟩
      · rw [List.getElem?_map, List.getElem?_append_left (by rw [dvl]; exact hi)] at e2
        cases q : (vs ++ dvs)[i]? with
        | none => rw [q] at e2; cases e2
        | some v' =>
          rw [q] at e2
          cases e2
          obtain ⟨u, hu, ru⟩ := (rv.append d1).get q
          refine ⟨u, ru, .inl ⟨hbl (x, u) ?_, rev_look ndp hlen hp hu⟩⟩
          have hz : ((ps.map os).zip (us ++ its))[i]? = some (x, u) := List.getElem?_zip_eq_some.mpr ⟨hp, hu⟩
          exact List.mem_of_getElem? hz
      · rw [List.getElem?_map, List.getElem?_append_right (by rw [dvl]; omega), dvl, Nat.add_sub_cancel_left] at e2
        obtain ⟨c, a, v', u, k1, k2, k3, k4, k5, k6, k7⟩ := hcv j y hj
        rw [k3] at e2
        cases e2
        refine ⟨u, k6, .inr ⟨.inr (of_decide_eq_true (List.all_eq_true.mp b8 y (List.mem_of_getElem? hj))), c, k1, ?_⟩⟩
        obtain ⟨o, ho2, hd2⟩ := k4
        exact ⟨o, kp _ _ ho2, hd2⟩
    · obtain ⟨_, _, _, _, u, _, _, _, k4, _⟩ := capAt x c hx
      obtain ⟨o, ho2, hd2⟩ := k4
      exact ⟨_, o, kp _ _ ho2, hd2⟩
    · obtain ⟨_, _, _, _, _, _, _, _, _, k5, _⟩ := capAt x c hx
      exact k5
    · show (((vs ++ dvs) ++ cv).map some).length = ((ps ++ fr).map os).length
      rw [List.length_map, List.length_map, List.length_append, dvl, cvl, List.length_append]
  have hr' := hr.deeper (PySem.W.envX qual scope s.heap.objs.size f (.ref c') cells)
  have cx : CxOk { T := T, tabs := tabs, hp := s.heap, H0 := H, Hx := H, clo := true } (lamC P w K mg base ((ps ++ fr).map os) qual scope f c' cells A outer s H Er) ⟨true, false⟩ n scope (ps ++ fr) := by
    refine ⟨rfl, b3, rfl, by rw [show (lamC P w K mg base ((ps ++ fr).map os) qual scope f c' cells A outer s H Er).N = (ps ++ fr).map os from rfl, List.map_append]; exact nd, fun _ => ⟨rfl, hr'⟩, ?_, fun _ => ⟨rfl, rfl, rfl⟩, ft, fun z => (by cases z)⟩
    have := hr'.un
    show (A.deeper (PySem.W.envX qual scope s.heap.objs.size f (.ref c') cells)).units + 65 < cLine
    omega
  have pe := sE b (W := fun cls d _ H' => Er cls d H') b2 cx (L2.takes_of rfl rfl rfl rfl)
  have capl := cap.len
  have sr : SR { T := T, tabs := tabs, hp := s.heap, H0 := H, Hx := H, clo := true } (lamC P w K mg base ((ps ++ fr).map os) qual scope f c' cells A outer s H Er) (((vs ++ dvs) ++ cv).map some) H (startL ps as dfl caps) S := by
    have hal : as.length = vs.length := r.len
    have hdl : (dfl.drop (dfl.length - (ps.length - as.length))).length = dvs.length := by rw [hvl]; exact d2.len
    refine ⟨.refl H, .refl H, tb, ?_, ?_, fun i a q => ?_, st, fun z => (by cases z)⟩
    · show (startL ps as dfl caps).length = ((ps ++ fr).map os).length
      unfold startL
      rw [List.length_map, List.length_append, List.length_append, List.length_map, hdl, hal, ← capl, List.length_map, List.length_append, ← dvl, List.length_append]
    · show (((vs ++ dvs) ++ cv).map some).length = ((ps ++ fr).map os).length
      rw [List.length_map, List.length_map, List.length_append, dvl, cvl, List.length_append]
    · unfold startL at q
      rw [List.getElem?_map] at q
      have hall : RepVs T K mg s.heap H (as ++ (dfl.drop (dfl.length - (ps.length - as.length))).map AV.d) (vs ++ dvs) := r.app (.of (by rw [hvl]; exact d2))
      have hl3 : (as ++ (dfl.drop (dfl.length - (ps.length - as.length))).map AV.d).length = ps.length := by rw [hall.len, dvl]
      have conv : ∀ {v : V}, RepV T K mg s.heap H a v → RepA { T := T, tabs := tabs, hp := s.heap, H0 := H, Hx := H, clo := true } (lamC P w K mg base ((ps ++ fr).map os) qual scope f c' cells A outer s H Er) H a v := fun {v} h => by
        cases a with
        | d x => exact h
        | clo ps fr b cs ds => exact h
        | exc x fs => exact h.elim
      by_cases hi : i < ps.length
      · rw [List.getElem?_append_left (by rw [hl3]; exact hi)] at q
        cases q2 : (as ++ (dfl.drop (dfl.length - (ps.length - as.length))).map AV.d)[i]? with
        | none => rw [q2] at q; cases q
        | some a' =>
          rw [q2] at q
          cases q
          obtain ⟨v, k1, k2⟩ := hall.get q2
          refine ⟨v, ?_, conv k2⟩
          rw [List.getElem?_map, List.getElem?_append_left (by rw [dvl]; exact hi), k1]
          rfl
      · rw [List.getElem?_append_right (by rw [hl3]; omega), hl3] at q
        cases q2 : caps[i - ps.length]? with
        | none => rw [q2] at q; cases q
        | some a' =>
          rw [q2] at q
          cases q
          have hj : i - ps.length < fr.length := by rw [capl]; exact (List.getElem?_eq_some_iff.mp q2).1
          obtain ⟨c, a2, v, u, k1, k2, k3, k4, k5, k6, k7⟩ := hcv (i - ps.length) _ (List.getElem?_eq_getElem hj)
          rw [q2] at k2
          cases k2
          refine ⟨v, ?_, conv k7⟩
          rw [List.getElem?_map, List.getElem?_append_right (by rw [dvl]; omega), dvl, k3]
          rfl
  refine PySem.W.kla_codeExpr (wpAny_mono (pe.run [] _ _ H Qr I ⟨startL ps as dfl caps, S, Q, E, sr, hw, fun v H' d S' x rd s' q => post v H' d S' x s'.tab s'.sto rd q, fun x fs S' cls d H' s' xr q => epost x fs S' cls d H' s'.exx s'.tab s'.sto xr q⟩) (fun v s' hq => ?_) fun e s' hq => hq)
  obtain ⟨w', H', J, rv', q⟩ := hq
  exact ⟨w', H', J.os, J.bare, J.base, J.hok, rv', q⟩
/-- CALLS BY LEVELS -/
theorem calls_cv (ft : Facts T K mg) (er : ErrsOk T P w K mg base) (hd : ∀ f F, T.fns.lookup f = some F → DefOk T tabs K mg base f F) : Calls (fun f => T.fns.lookup f) (fun n => CV T tabs P w K mg base n) where
  mono := cv_mono
  weak := cv_weak
  fn := fun hF hl hw => cv_fn ft er hF (hd _ _ hF) hl hw
  lam := fun h1 h2 hw => cv_lam ft h1 h2 hw
end
end PS
set_option maxHeartbeats 4000000
/-! PS, part 37: the making of an own error: super().__init__(..), its fields. -/
namespace PS
open PySem PySem.Spec PyProof.Rows L2 PD
abbrev exT : List Value := [.type "Exception", .type "BaseException", .type "object"]
section
open PySem.W Builtin Builtin.ObjectAttr
variable {prog : Program} {w : World} {A : Around} {E : Value → Shared → Prop} {R : Result → Shared → Prop} {hp : Heap} {g : Array GenState} {d : Drawn} {t : Nat} {os : OsState}
theorem osaN {K : Frag} {name : Str} {tk : Tok} {v : Value} {x C : Addr} {fv : Array Value} {cd : ClassData}
    (X : K.In hp) (hx : hp.get? x = some { cls := .ref C, data := .fields fv }) (ho : excOver K C exT = true) (hcd : clsIn K C = some cd) (hh : cd.hasDict = true) (ha : findIn K (.ref C) name = some none)
    (hq : ∀ h' tk' dx, (∀ b o, b ≠ x → hp.get? b = some o → h'.get? b = some o) → hp.objs.size ≤ dx → dx ≠ x → h'.get? x = some { cls := .ref C, dict := some dx, data := .fields fv } →
      h'.Ns1 dx (fun y => if y = name then some v else none) → R (.ok (.ret .none)) ⟨h', g, d, tk', os⟩) :
    codeAny (model prog w) A (.call (.builtin "object.__setattr__") ⟨[.ref x, .str name tk, v], []⟩) R ⟨hp, g, d, t, os⟩ := by
  have I : InstAt hp x { cls := .ref C, data := .fields fv } C none := ⟨hx, rfl, rfl, trivial⟩
  have hxs : x ≠ hp.objs.size := Nat.ne_of_lt (Heap.lt_size hx)
  refine osa_openX (s := ⟨hp, g, d, t, os⟩) PySem.F.store_Exception X I ho (r := none) (by unfold takerIn; rw [ha]; rfl) fun b => ?_
  have hcls : Looks (model prog w) hp (classData C) cd := looks_clsIn X hcd
  obtain ⟨nm, bs, mro, ns, qn, hd, sn, sb, ab, col, del⟩ := cd
  dsimp only at hh
  subst hh
  show wpAny _ _ (storeInOwnDict (.ref x) (.ref C) (.str name tk) name v b) _ _ _
  unfold storeInOwnDict ownDictForStores
  repeat (first | with_reducible refine HandSPX.store_in_new ?_ ?_ | with_reducible refine wpAny_loadPart_at hx ?_ | with_reducible refine hcls.at ?_ | wp_step)
  · exact ⟨_, #[], _, (Heap.get?_update_ne _ _ _ _ hxs.symm).trans (Heap.get?_push_at rfl rfl), rfl, fun e he => absurd he (by simp), fun _ => rfl⟩
  · intro h' tk' hn' hs
    have hx₁ : (hp.push { cls := .type "dict", data := .dict #[] }).get? x = some { cls := .ref C, data := .fields fv } := Heap.get?_push_of_some _ hx
    refine hq h' tk' hp.objs.size (fun b o hb ho => ?_) (Nat.le_refl _) hxs.symm ?_ hn'
    · exact (hs.2 b (Nat.ne_of_lt (Heap.lt_size ho))).trans ((Heap.get?_update_ne _ _ _ _ hb).trans (Heap.get?_push_of_some _ ho))
    · exact (hs.2 x hxs).trans (Heap.get?_update_self _ hx₁ rfl)
theorem osaO {K : Frag} {name : Str} {tk : Tok} {v : Value} {x C dx : Addr} {fv : Array Value} {cd : ClassData} {m0 : Str → Option Value} {nl : List Str}
    (X : K.In hp) (hx : hp.get? x = some { cls := .ref C, dict := some dx, data := .fields fv }) (hns : hp.Ns1 dx m0) (hw : Within m0 nl) (hz : nl.length ≤ 1000) (ho : excOver K C exT = true) (hcd : clsIn K C = some cd) (hh : cd.hasDict = true)
    (ha : findIn K (.ref C) name = some none)
    (hq : ∀ h' tk', (∀ b o, b ≠ dx → hp.get? b = some o → h'.get? b = some o) → h'.Ns1 dx (fun y => if y = name then some v else m0 y) → R (.ok (.ret .none)) ⟨h', g, d, tk', os⟩) :
    codeAny (model prog w) A (.call (.builtin "object.__setattr__") ⟨[.ref x, .str name tk, v], []⟩) R ⟨hp, g, d, t, os⟩ := by
  obtain ⟨oD, esD, epD, hoD, hdD, _⟩ := hns.count hw
  have I : InstAt hp x { cls := .ref C, dict := some dx, data := .fields fv } C (some oD) := ⟨hx, rfl, rfl, hoD⟩
  refine osa_openX (s := ⟨hp, g, d, t, os⟩) PySem.F.store_Exception X I ho (r := none) (by unfold takerIn; rw [ha]; rfl) fun b => ?_
  have hcls : Looks (model prog w) hp (classData C) cd := looks_clsIn X hcd
  obtain ⟨nm, bs, mro, ns, qn, hd, sn, sb, ab, col, del⟩ := cd
  dsimp only at hh
  subst hh
  show wpAny _ _ (storeInOwnDict (.ref x) (.ref C) (.str name tk) name v b) _ _ _
  unfold storeInOwnDict ownDictForStores
  repeat (first | with_reducible refine ESX.store_in_old hns hw hz ?_ | with_reducible refine wpAny_loadPart_at hx ?_ | with_reducible refine hcls.at ?_ | wp_step)
  intro h' tk' hn' hs
  exact hq h' tk' (fun b o hb ho => (hs.2 b hb).trans ho) hn'
end
end PS
set_option maxHeartbeats 4000000
/-! PS, part 38: the body of an error's __init__. -/
namespace PS
open PySem PySem.Spec PyProof.Rows L2 PD
open PySem.W (findIn clsIn subIn mroIn typeIn nsIn codeIn keepIn excOver excInitIn ks_superIn ksFn ksEnv looks_findIn looks_subIn looks_mroIn looks_clsIn looks_opaque InstAt Looks)
/-- names, as they are handed on -/
def argsN : List String → List Expr → Bool
  | [], [] => true
  | f :: fs, .Name x _ :: r => os f == x && argsN fs r
  | _, _ => false
def asgnB : List String → List Stmt → Bool
  | [], [] => true
  | f :: fs, .Assign [.Attribute (.Name s _) g _] (.Name v _) _ :: r => os "self" == s && os f == g && os f == v && asgnB fs r
  | _, _ => false
/-- the text of an __init__: super().__init__(..), self.f = f .. -/
def initB (names : List String) (body : List Stmt) : Bool := match body with
  | .Expr (.Call (.Attribute (.Call (.Name s _) [] [] _) i p2) args [] p3) _ :: r => os "super" == s && os "__init__" == i && p2.endLine == p3.line && decide (args.length < 20) && argsN names args && asgnB names r
  | _ => false
theorem init_parts {names : List String} {body : List Stmt} (h : initB names body = true) : ∃ p0 p1 p2 p3 p4 args r, body = .Expr (.Call (.Attribute (.Call (.Name (os "super") p0) [] [] p1) (os "__init__") p2) args [] p3) p4 :: r ∧
    (p2.endLine == p3.line) = true ∧ args.length < 20 ∧ argsN names args = true ∧ asgnB names r = true := by
  unfold initB at h
  split at h
  · rename_i s p0 p1 i p2 args p3 p4 r
    simp only [Bool.and_eq_true, decide_eq_true_eq] at h
    obtain ⟨⟨⟨⟨⟨h1, h2⟩, h3⟩, h4⟩, h5⟩, h6⟩ := h
    cases eq_of_beq h1
    cases eq_of_beq h2
    exact ⟨_, _, _, _, _, _, _, rfl, h3, h4, h5, h6⟩
  · cases h
theorem argsN_plain : ∀ {names : List String} {args : List Expr}, argsN names args = true → ∀ a ∈ args, plainB a = true
  | [], [], _, a, h => (by cases h)
  | f :: fs, .Name x p :: r, h, a, ha => by
    have h' : (os f == x && argsN fs r) = true := h
    rw [Bool.and_eq_true] at h'
    rcases List.mem_cons.mp ha with rfl | ha
    · rfl
    · exact argsN_plain h'.2 a ha
  | [], _ :: _, h, _, _ => (Bool.false_ne_true h).elim
/-- the state within, fs: the fields so far -/
structure IS (hp h : Heap) (L e C : Addr) (m : Str → Option Value) (fs : List (Str × Value)) : Prop where
  keep : ∀ b o, hp.get? b = some o → h.get? b = some o
  ns : h.Ns L m
  ne : L ≠ e
  big : hp.objs.size ≤ e
  at_ : ∃ t : Addr, (fs = [] ∧ h.get? e = some (HandSPX.excO C t)) ∨ fs ≠ [] ∧ ∃ dx mA, hp.objs.size ≤ dx ∧ dx ≠ e ∧ L ≠ dx ∧ h.get? e = some ({ cls := .ref C, dict := some dx, data := .fields #[.ref t, .none, .none, .none, .bool false, .none] } : Obj) ∧ h.Ns1 dx mA ∧ ∀ y, mA y = fs.lookup y
theorem none_of_le {h : Heap} {a : Addr} (l : h.objs.size ≤ a) : h.get? a = none := by
  cases q : h.get? a with
  | none => rfl
  | some o => exact absurd (Heap.lt_size q) (Nat.not_lt.mpr l)
theorem IS.new {hp h : Heap} {L e C : Addr} {m : Str → Option Value} {fs : List (Str × Value)} (I : IS hp h L e C m fs) : hp.get? e = none := none_of_le I.big
theorem lookup_putV (f g : Str) (y : Value) (fs : List (Str × Value)) : ((f, y) :: fs).lookup g = if g = f then some y else fs.lookup g := by
  by_cases h : g = f
  · subst h
    simp [List.lookup]
  · have e : (g == f) = false := by simpa using h
    rw [if_neg h]
    simp [List.lookup, e]
theorem within_fs : ∀ {fs : List (Str × Value)} {mA : Str → Option Value}, (∀ y, mA y = fs.lookup y) → Within mA (fs.map (·.1)) := fun {fs mA} r y hy => by
  rw [r] at hy
  clear r
  induction fs with
  | nil => exact absurd rfl hy
  | cons p l ih =>
    obtain ⟨f, z⟩ := p
    rw [lookup_putV] at hy
    by_cases e : y = f
    · rw [e]
      exact List.mem_cons_self ..
    · rw [if_neg e] at hy
      exact List.mem_cons_of_mem _ (ih hy)
section
variable {prog : Program} {w : World} {A : Around} {K : PySem.W.Frag} {hp h : Heap} {L e C : Addr} {m : Str → Option Value} {fs : List (Str × Value)} {g : Array GenState} {d : Drawn} {t : Nat} {os' : OsState}
/-- what a store of a field needs of the class -/
structure ErrS (K : PySem.W.Frag) (C : Addr) : Prop where
  ov : excOver K C exT = true
  cd : ∃ cd, clsIn K C = some cd ∧ cd.hasDict = true
  sa : findIn K (.ref C) "__setattr__" = some (some (.builtin "object.__setattr__"))
theorem is_put (T : ErrS K C) (X : K.In hp) (I : IS hp h L e C m fs) {f : Str} {u : Value} (hl : fs.length ≤ 900) (hno : findIn K (.ref C) f = some none) {Q : Unit → Shared → Prop} {E : Value → Shared → Prop}
    (hq : ∀ h' tk', IS hp h' L e C m ((f, u) :: fs) → Q () ⟨h', g, d, tk', os'⟩) : wpAny (model prog w) A (setAttr (.ref e) f u) Q E ⟨h, g, d, t, os'⟩ := by
  have X' : K.In h := X.keeps I.keep
  obtain ⟨cd, hcd, hh⟩ := T.cd
  obtain ⟨t0, h0 | ⟨_, dx, mA, hdn, hde, hdL, he, hns, hm⟩⟩ := I.at_
  · obtain ⟨rfl, he⟩ := h0
    refine PySem.W.set_plain X' (ox := HandSPX.excO C t0) (od := none) ⟨he, rfl, rfl, trivial⟩ T.sa ?_
    refine osaN X' he T.ov hcd hh hno fun h' tk' dx k dn dne hx hn => hq h' tk' ⟨fun b o q => k b o (fun z => by rw [z, I.new] at q; cases q) (I.keep b o q), I.ns.at fun o q => k L o I.ne q, I.ne, I.big, t0, .inr ⟨by simp, dx, _, ?_, dne, ?_, hx, hn, fun y => ?_⟩⟩
    · exact Nat.le_trans (Nat.le_trans I.big (Nat.le_of_lt (Heap.lt_size he))) dn
    · intro z
      have := I.ns.lt
      rw [z] at this
      exact absurd this (Nat.not_lt.mpr dn)
    · rw [lookup_putV]
      rfl
  · obtain ⟨oD, _, _, hoD, _, _⟩ := hns.count (within_fs hm)
    refine PySem.W.set_plain X' (ox := { cls := .ref C, dict := some dx, data := .fields #[.ref t0, .none, .none, .none, .bool false, .none] }) (od := some oD) ⟨he, rfl, rfl, hoD⟩ T.sa ?_
    refine osaO X' he hns (within_fs hm) (by rw [List.length_map]; omega) T.ov hcd hh hno fun h' tk' k hn => hq h' tk' ⟨fun b o q => k b o (fun z => by rw [z, none_of_le hdn] at q; cases q) (I.keep b o q), I.ns.at fun o q => k L o hdL q, I.ne, I.big, t0, .inr ⟨by simp, dx, _, hdn, hde, hdL, k e _ (Ne.symm hde) he, hn, fun y => ?_⟩⟩
    rw [lookup_putV, hm]
theorem asgn_cons {f : String} {fs : List String} {body : List Stmt} (h : asgnB (f :: fs) body = true) : ∃ p1 p2 p3 p4 r, body = .Assign [.Attribute (.Name (os "self") p1) (os f) p2] (.Name (os f) p3) p4 :: r ∧ asgnB fs r = true := by
  unfold asgnB at h
  split at h
  · rename_i e; cases e
  · rename_i f' fs' s p1 g' p2 v p3 p4 r e
    cases e
    simp only [Bool.and_eq_true, beq_iff_eq] at h
    obtain ⟨⟨⟨rfl, rfl⟩, rfl⟩, hr⟩ := h
    exact ⟨p1, p2, p3, p4, r, rfl, hr⟩
  · cases h
/-- self.f = f, all of them -/
theorem run_asgs {qual : Str} {scope : Scope} {fI cc : Addr} {cdv : Value} (T : ErrS K C) (X : K.In hp) (hk : scope.kind = .function) (hself : scope.names.lookup (os "self") = some .local) (mself : m (os "self") = some (.ref e)) {Q : Flow → Shared → Prop} {E : Value → Shared → Prop} :
    ∀ (todo : List (String × Value)) (body : List Stmt) (fs : List (Str × Value)) (h : Heap) (t : Nat), asgnB (todo.map (·.1)) body = true →
      (∀ p ∈ todo, m (os p.1) = some p.2 ∧ scope.names.lookup (os p.1) = some .local ∧ findIn K (.ref C) (os p.1) = some none ∧ (os p.1 == ("__debug__" : Str)) = false) → IS hp h L e C m fs → fs.length + todo.length ≤ 900 →
      (∀ h' tk', IS hp h' L e C m ((todo.map fun p => (os p.1, p.2)).reverse ++ fs) → Q .next ⟨h', g, d, tk', os'⟩) → wpAny (model prog w) A (execs body (ksEnv qual scope L fI cdv cc)) Q E ⟨h, g, d, t, os'⟩
  | [], body, fs, h, t, hb, ht, I, hl, hq => by
    cases body with
    | nil => exact wpAny_execs_nil (hq h t I)
    | cons _ _ => exact (Bool.false_ne_true hb).elim
  | (f, u) :: todo, body, fs, h, t, hb, ht, I, hl, hq => by
    obtain ⟨p1, p2, p3, p4, r, rfl, hr⟩ := asgn_cons (f := f) hb
    obtain ⟨m1, m2, m3, m4⟩ := ht (f, u) List.mem_cons_self
    refine wpAny_execs_cons (plainObj_wpAny_Assign_Attribute (wpAny_Name (wpAny_loadName_local hk m2 I.ns m1 (wpAny_Name (wpAny_loadName_local hk hself I.ns mself (is_put T X I (by omega) m3 fun h' tk' I' => ?_)) (by decide))) m4))
    refine run_asgs T X hk hself mself todo r _ h' tk' hr (fun p hp => ht p (List.mem_cons_of_mem _ hp)) I' (by simp at hl ⊢; omega) fun h2 t2 I2 => hq h2 t2 ?_
    rw [List.map_cons, List.reverse_cons, List.append_assoc]
    exact I2
end
end PS
set_option maxHeartbeats 4000000
/-! PS, part 39: super().__init__(..). -/
namespace PS
open PySem PySem.Spec PyProof.Rows L2 PD
open PySem.W (findIn clsIn subIn mroIn typeIn nsIn codeIn keepIn excOver excInitIn ks_superIn ksFn ksEnv looks_findIn looks_subIn looks_mroIn looks_clsIn looks_opaque InstAt Looks)
/-- what the written part says of an error's class -/
structure ErrC (prog : Program) (K : PySem.W.Frag) (mg : Str → Option Value) (C : Addr) (names : List String) : Prop extends ErrS K C where
  ini : excInitIn K C exT "Exception.__new__" = true
  sup : mg "super" = none
  top : (prog.main.scope.names.lookup ("super" : Str)).isSome = false
  opq : nsIn K cStatics "thirdparty.any" = some none
  exc : subIn K (.ref C) (.type "Exception") = some true
  self_ : mroIn K C (.ref C) = some true
  find : ∀ f ∈ names, findIn K (.ref C) (os f) = some none ∧ (os f == ("__debug__" : Str)) = false
  nd : ("self" :: names).Nodup
  ne : names ≠ []
  supI : ks_superIn K C C "__init__" = some (some (.builtin "Exception.__init__"))
  fn : ∃ (fI cda cc : Addr) (name qual : Str) (params : Arguments) (body : List Stmt) (scope : Scope) (kV doc pm ct oc ccl cl : Value) (an od cdd cld : Option Addr) (osl ccs csl : Array (Option Value)) (vs : Array Value) (file : Str) (tf : Tok),
    findIn K (.ref C) "__init__" = some (some (.ref fI)) ∧ typeIn K (.ref fI) = some (.type "function") ∧ K.lookup fI = some ⟨oc, od, .func (ksFn name qual params body scope .none kV doc pm an (.ref cda) ct cc), osl⟩ ∧ codeIn K (.ref cda) qual = true ∧
    K.lookup cda = some ⟨ccl, cdd, .fields vs, ccs⟩ ∧ vs[2]? = some (.str file tf) ∧ ((prog.main.file : Str) == file) = true ∧ K.lookup cc = some ⟨cl, cld, .cell (some (.ref C)), csl⟩ ∧
    argsB params ("self" :: names) 0 = true ∧ initB names body = true ∧ scope.kind = .function ∧ scope.isCoroutine = false ∧ scope.isGenerator = false ∧ (∀ x ∈ scope.names, x.2 ≠ .cell) ∧
    scope.names.lookup ("super" : Str) = some .globalImplicit ∧ scope.names.lookup ("__class__" : Str) = some .free ∧ ∀ f ∈ "self" :: names, scope.names.lookup (os f) = some .local
theorem ev_meth (env : PySem.Env) (o : Expr) (nm : Str) (args : List Expr) (p2 p3 : Pos) (hl : (p2.endLine == p3.line) = true) (hf : methodCallForm (args.length + ([] : List Keyword).length) (backTo p3 (starEach args env)) (backToKw p3 (keywordEach [] env)) = true) :
    eval (.Call (.Attribute o nm p2) args [] p3) env = (do
      let ov ← attributeBase o nm env (eval o env)
      standAt p2.atName
      let (f, first) ← holding [ov] (getMethod ov nm (do return (← importBound o env).getD true))
      callWith p3 f first (backTo p3 (starEach args env)) []) := by
  have e1 : eval (.Call (.Attribute o nm p2) args [] p3) env = (do
      let ov ← attributeBase o nm env (eval o env)
      standAt p2.atName
      methodCall o nm p2 p3 env ov (args.length + ([] : List Keyword).length) (backTo p3 (starEach args env)) (backToKw p3 (keywordEach [] env))) := by rw [eval]
  rw [e1]
  unfold methodCall
  rw [hf]
  unfold calleeOf methodCallPos
  simp only [Bool.not_true, Bool.false_or, hl, if_true, pure_bind]
  rfl
section
variable {prog : Program} {w : World} {A : Around} {K : PySem.W.Frag} {mg : Str → Option Value} {hp h : Heap} {L e C : Addr} {m : Str → Option Value} {g : Array GenState} {d : Drawn} {t : Nat} {os' : OsState} {names : List String}
/-- names, from the left -/
theorem spl_names {env : PySem.Env} (hk : env.scope.kind = .function) {s : Shared} (ns : s.heap.Ns env.locals m) {E : Value → Shared → Prop} : ∀ (todo : List (String × Value)) (args : List Expr) (pos : Pos) (Q : List Value → Shared → Prop), argsN (todo.map (·.1)) args = true →
    (∀ p ∈ todo, m (os p.1) = some p.2 ∧ env.kindOf (os p.1) = some .local ∧ (os p.1 == ("__debug__" : Str)) = false) → Q (todo.map (·.2)) s → wpAny (model prog w) A (spliced (backTo pos (starEach args env))) Q E s
  | [], args, pos, Q, ha, ht, hq => by
    cases args with
    | nil => exact Calls.spliced_nil hq
    | cons _ _ => exact (Bool.false_ne_true ha).elim
  | (f, u) :: todo, args, pos, Q, ha, ht, hq => by
    cases args with
    | nil => exact (Bool.false_ne_true ha).elim
    | cons a r =>
      cases a with
      | Name x p =>
        have ha' : (os f == x && argsN (todo.map (·.1)) r) = true := ha
        rw [Bool.and_eq_true, beq_iff_eq] at ha'
        obtain ⟨rfl, h2⟩ := ha'
        obtain ⟨m1, m2, m3⟩ := ht (f, u) List.mem_cons_self
        show wpAny _ _ (spliced ((false, eval (.Name (os f) p) env) :: backTo pos (starEach r env))) _ _ s
        exact Calls.spliced_cons (wpAny_Name (wpAny_loadName_local hk m2 ns m1 (spl_names hk ns todo r pos _ h2 (fun p hp => ht p (List.mem_cons_of_mem _ hp)) hq)) m3)
      | _ => exact (Bool.false_ne_true ha).elim
/-- the body, from its start -/
theorem run_init {base : Heap} {qual : Str} {scope : Scope} {fI cda cc : Addr} {name : Str} {params : Arguments} {body : List Stmt} {kV doc pm ct oc ccl cl : Value} {an od cdd cld : Option Addr} {osl ccs csl : Array (Option Value)} {vs : Array Value} {file : Str} {tf : Tok} (T : ErrC prog K mg C names) (M : Mod K mg base) (kb : ∀ b o, base.get? b = some o → hp.get? b = some o) (X : K.In hp)
    (lf : K.lookup fI = some ⟨oc, od, .func (ksFn name qual params body scope .none kV doc pm an (.ref cda) ct cc), osl⟩) (lc : K.lookup cda = some ⟨ccl, cdd, .fields vs, ccs⟩) (hvs : vs[2]? = some (.str file tf)) (hfile : ((prog.main.file : Str) == file) = true) (lcc : K.lookup cc = some ⟨cl, cld, .cell (some (.ref C)), csl⟩)
    (hpar : argsB params ("self" :: names) 0 = true) (hbody : initB names body = true) (hk : scope.kind = .function) (hks : scope.names.lookup ("super" : Str) = some .globalImplicit) (hkc : scope.names.lookup ("__class__" : Str) = some .free) (hloc : ∀ f ∈ "self" :: names, scope.names.lookup (os f) = some .local)
    {us : List Value} (hl : us.length = names.length) (hl9 : names.length ≤ 900) (mself : m (os "self") = some (.ref e)) (mus : ∀ p ∈ names.zip us, m (os p.1) = some p.2) (I : IS hp h L e C m []) {Q : Flow → Shared → Prop} {E : Value → Shared → Prop}
    (hq : ∀ h' tk', IS hp h' L e C m (((names.zip us).map fun p => (os p.1, p.2)).reverse) → Q .next ⟨h', g, d, tk', os'⟩) :
    _root_.PySem.wpAt (model prog w) A (.func body (ksEnv qual scope L fI (.ref cda) cc)) (execs body (ksEnv qual scope L fI (.ref cda) cc)) Q E ⟨h, g, d, t, os'⟩ := by
  have hmap : (names.zip us).map (·.1) = names := by rw [List.map_fst_zip]; omega
  have hmap2 : (names.zip us).map (·.2) = us := by rw [List.map_snd_zip]; omega
  have X' : K.In h := X.keeps I.keep
  obtain ⟨nm, N', qn, bs, bm, hdct, sn, sub, ab, col, dd, k0, k1, k2, k3, k5, hC, hT⟩ := PySem.W.excInit_of X' T.ini
  obtain ⟨cd, hcd, hh⟩ := T.cd
  obtain ⟨t0, h0 | ⟨hne, _⟩⟩ := I.at_
  rotate_left
  · exact absurd rfl hne
  obtain ⟨_, he⟩ := h0
  obtain ⟨p0, p1, p2, p3, p4, args, r, hbd, hline, hal, hargs, hr⟩ := init_parts hbody
  clear hbody
  subst hbd
  have hpl := argsN_plain hargs
  have hself : scope.names.lookup (os "self") = some .local := hloc "self" List.mem_cons_self
  refine ks_wpAt_execs_cons (ks_wpAt_Expr_any (ks_wpAt_MethodCall (pl := do return (← importBound (.Call (.Name (os "super") p0) [] [] p1) (ksEnv qual scope L fI (.ref cda) cc)).getD true) ?_ (ev_meth _ _ _ _ _ _ hline (by unfold methodCallForm; exact few_ok _ hal hpl _ _))) (by unfold interactive; show (scope.kind == .module && _) = false; rw [hk]; rfl))
  obtain ⟨p1', p2', p3', _, p5', p6', _⟩ := args_of hpar
  have hhead : (params.posonlyargs ++ params.args).head?.map (·.arg) = some (os "self") := by
    rw [p1', List.nil_append]
    cases hpa : params.args with
    | nil => rw [hpa] at p6'; cases p6'
    | cons a l => rw [hpa] at p6'; exact congrArg some (List.cons.inj p6').1
  obtain ⟨ag, har, harg⟩ := Option.map_eq_some_iff.mp hhead
  refine ks_wpAt_super_base (env := ksEnv qual scope L fI (.ref cda) cc) hks hkc (by decide) rfl (X' _ _ lf) rfl har rfl (X' _ _ lc) rfl hvs hfile T.top ?_
  obtain ⟨mb, h1, h2⟩ := M.blt
  have kk : ∀ b o, base.get? b = some o → h.get? b = some o := fun b o q => I.keep b o (kb b o q)
  refine PySem.W.ks_loadName_global hk hks (Calls.loadGlobal_builtin (env := ksEnv qual scope L fI (.ref cda) cc) (M.glob.keeps kk) T.sup (h1.keeps kk) ((h2 _ (by decide)).trans PyProof.Rows.Boot.«super») ⟨rfl, ?_⟩)
  refine wpAny_loadName_free hk hkc rfl ⟨_, X' _ _ lcc, rfl⟩ ?_
  rw [harg]
  refine wpAny_loadName_local hk hself I.ns mself ?_
  refine ks_wpAny_isType_cls hC rfl ⟨rfl, ?_⟩
  refine ks_wpAny_call_super hC rfl he rfl (fun c => by intro z; cases z) (looks_mroIn X' T.self_) (fun h2 e2 k2 => ?_)
  -- the super object stands; its __init__, bound
  have Xh2 : K.In h2 := X'.keeps k2
  have hIn : Looks (model prog w) h2 (isInstance (.ref e) (.type "Exception")) true := (InstAt.type (⟨k2 _ _ he, rfl, rfl, trivial⟩ : InstAt h2 e (HandSPX.excO C t0) C none)).andThen (looks_subIn Xh2 T.exc)
  have hm := T.supI
  unfold ks_superIn at hm
  rw [hcd] at hm
  have heC : e ≠ C := fun z => by
    rw [z, hC] at he
    cases he
  refine ESX.getMethod_super (D := C) (l₀ := cd.mro) e2 (looks_opaque Xh2 T.opq) (fun A Q E s k q => wpAny_bind ((looks_clsIn Xh2 hcd) A _ E s k (wpAny_pure q))) rfl Xh2 hm heC (by decide) hIn ?_
  have hu : (h2.push (ESX.bw e)).get? h2.objs.size = some (ESX.bw e) := Heap.get?_push_at rfl rfl
  have k3 : ∀ b o, h.get? b = some o → (h2.push (ESX.bw e)).get? b = some o := fun b o q => Heap.get?_push_of_some _ (k2 b o q)
  have sp : ∀ {Q' : Value → Shared → Prop}, wpAny (model prog w) A (call (.ref h2.objs.size) us) Q' E ⟨h2.push (ESX.bw e), g, d, t + 1, os'⟩ →
      wpAny (model prog w) A (callWith p3 (.ref h2.objs.size) [] (backTo p3 (starEach args (ksEnv qual scope L fI (.ref cda) cc))) []) Q' E ⟨h2.push (ESX.bw e), g, d, t + 1, os'⟩ := fun {Q'} hc => by
    have sl := spl_names (prog := prog) (w := w) (A := A) (E := E) (env := ksEnv qual scope L fI (.ref cda) cc) (s := ⟨h2.push (ESX.bw e), g, d, t + 1, os'⟩) (m := m) hk (I.ns.keeps k3) (names.zip us) args p3 (fun vs s₁ => s₁.heap.get? h2.objs.size = some (ESX.bw e) ∧ wpAny (model prog w) A (call (.ref h2.objs.size) vs) Q' E s₁) (by rw [hmap]; exact hargs)
      (fun p hp => ⟨mus p hp, hloc _ (List.mem_cons_of_mem _ (List.of_mem_zip hp).1), (T.find _ (List.of_mem_zip hp).1).2⟩) (by rw [hmap2]; exact ⟨hu, hc⟩)
    obtain ⟨a1, ar, rfl⟩ : ∃ a1 ar, args = a1 :: ar := by
      cases args with
      | nil => cases hnm : names with
        | nil => exact absurd hnm T.ne
        | cons f fs => rw [hnm] at hargs; exact (Bool.false_ne_true hargs).elim
      | cons a1 ar => exact ⟨a1, ar, rfl⟩
    have he1 := star_cons (hpl a1 List.mem_cons_self) ar (ksEnv qual scope L fI (.ref cda) cc)
    have hst := star_none (fun a h => hpl a (List.mem_cons_of_mem _ h)) p3 (ksEnv qual scope L fI (.ref cda) cc) (es := ar)
    exact ESX.callWith_bound (x := e) sl he1 hst
  refine sp ?_
  refine ESX.call_bw (k3 _ _ hC) (k3 _ _ he) hu (by rw [hl, sizeLine_eq]; omega) fun h4 t1 k4 e4 => ?_
  have J : IS hp h4 L e C m [] := ⟨fun b o q => k4 b o (fun z => by rw [z, I.new] at q; cases q) (k3 _ _ (I.keep b o q)), I.ns.at fun o q => k4 L o I.ne (k3 _ _ q), I.ne, I.big, t1, .inl ⟨rfl, e4⟩⟩
  refine wpAt_of_wpAny ?_
  refine run_asgs T.toErrS X hk hself mself (names.zip us) r [] h4 _ (by rw [hmap]; exact hr) (fun p hp => ?_) J (by rw [List.length_zip]; simp; omega) fun h5 tk5 I5 => hq h5 tk5 (by rw [List.append_nil] at I5; exact I5)
  have hm1 := (List.of_mem_zip (show (p.1, p.2) ∈ names.zip us from hp)).1
  exact ⟨mus p hp, hloc _ (List.mem_cons_of_mem _ hm1), (T.find _ hm1).1, (T.find _ hm1).2⟩
end
end PS
set_option maxHeartbeats 4000000
/-! PS, part 40: own errors are made. -/
namespace PS
open PySem PySem.Spec PyProof.Rows L2 PD
open PySem.W (findIn clsIn subIn mroIn typeIn nsIn codeIn keepIn excOver excInitIn ks_superIn ksFn ksEnv looks_findIn looks_subIn looks_mroIn looks_clsIn looks_opaque InstAt Looks)
theorem fwd_look {ns : List Str} (nd : ns.Nodup) {α : Type} : ∀ {vs : List α} {i : Nat} {x : Str} {v : α}, ns[i]? = some x → vs[i]? = some v → (ns.zip vs).lookup x = some v := by
  induction ns with
  | nil => intro vs i x v h1; simp at h1
  | cons n ns ih =>
    intro vs i x v h1 h2
    cases vs with
    | nil => simp at h2
    | cons w vs =>
      rw [List.zip_cons_cons, List.lookup_cons]
      cases i with
      | zero => simp at h1 h2; subst h1 h2; simp
      | succ i =>
        have hm : x ∈ ns := List.mem_iff_getElem?.mpr ⟨i, by simpa using h1⟩
        have hne : (x == n) = false := beq_eq_false_iff_ne.mpr fun z => (List.nodup_cons.mp nd).1 (z ▸ hm)
        rw [hne]
        exact ih (List.nodup_cons.mp nd).2 (by simpa using h1) (by simpa using h2)
theorem look_none {ns : List Str} {α : Type} : ∀ {vs : List α} {x : Str}, x ∉ ns → (ns.zip vs).lookup x = none := by
  intro vs x h
  rw [List.lookup_eq_none_iff]
  intro q hq
  have hm := (List.of_mem_zip (show (q.1, q.2) ∈ ns.zip vs from hq)).1
  have hne : x ≠ q.1 := fun z => h (by rw [z]; exact hm)
  first
    | simpa using hne
    | simpa using Ne.symm hne
theorem look_none_rev {ns : List Str} {α : Type} : ∀ {vs : List α} {x : Str}, x ∉ ns → (ns.zip vs).reverse.lookup x = none := by
  intro vs x h
  rw [List.lookup_eq_none_iff]
  intro q hq
  have hm := (List.of_mem_zip (show (q.1, q.2) ∈ ns.zip vs from List.mem_reverse.mp hq)).1
  have hne : x ≠ q.1 := fun z => h (by rw [z]; exact hm)
  first
    | simpa using hne
    | simpa using Ne.symm hne
theorem relO_fields {ns : List Str} (nd : ns.Nodup) {vs : List V} {us : List Value} (r : Vals vs us) (hl : us.length = ns.length) (y : Str) : RelO ((ns.zip vs).lookup y) ((ns.zip us).reverse.lookup y) := by
  by_cases h : y ∈ ns
  · obtain ⟨i, hi⟩ := List.mem_iff_getElem?.mp h
    have hlt : i < us.length := by rw [hl]; exact (List.getElem?_eq_some_iff.mp hi).1
    have h1 : us[i]? = some us[i] := List.getElem?_eq_getElem hlt
    have h2 : vs[i]? = some (vs[i]'(by rw [r.length]; exact hlt)) := List.getElem?_eq_getElem _
    obtain ⟨u, hu, ru⟩ := r.get h2
    rw [fwd_look nd hi h2, rev_look nd hl hi hu]
    exact ru
  · rw [look_none h, look_none_rev h]
    exact True.intro
theorem err_at {X : Cx} {x : String} {C : Addr} {names : List String} (T : ErrC X.prog X.K X.mg C names) (hm : X.mg (os x) = some (.ref C)) (kC : keepIn X.K (.ref C) = true) (exC : subIn X.K (.ref C) (.type "BaseException") = some true) (tyC : typeIn X.K (.ref C) = some (.type "type"))
    (hdb : (os x == ("__debug__" : Str)) = false) (hr : Room 0 X.A) (hlen9 : names.length ≤ 900) : ErrAt X x names := by
  intro es t p pos ha hle hplain hg pins s σ H Q I h
  obtain ⟨fI, cda, cc, name, qual, params, body, scope, kV, doc, pm, ct, oc, ccl, cl, an, od, cdd, cld, osl, ccs, csl, fvs, file, tf, iC, tI, lf, hcd, lc, hvs, hfile, lcc, hpar, hbody, hk, hco, hgen, hcell, hks, hkc, hloc⟩ := T.fn
  obtain ⟨e1, er, rfl⟩ : ∃ e1 er, es = e1 :: er := by
    cases es with
    | nil => exact absurd (List.length_eq_zero_iff.mp hle.symm) T.ne
    | cons e1 er => exact ⟨e1, er, rfl⟩
  refine wpAny_Call_Name_kw (ld_glob I hg hm ?_ hdb)
  refine PySem.W.callWith_K (h₀ := X.base) I.ok.mod.kin kC (thn (ha.run pos pins s σ H _ I h) fun us s1 ⟨vs, H1, I1, r1, hlv, q1⟩ => ⟨I1.kIn, ?_⟩) (star_cons (hplain e1 List.mem_cons_self) er X.env) (star_none (fun a h => hplain a (List.mem_cons_of_mem _ h)) pos X.env)
  show wpAny _ _ (call (.ref C) us) _ _ _
  obtain ⟨hp, g, dr, tk, osx⟩ := s1
  have hul : us.length = names.length := by rw [← r1.length, hlv]
  obtain ⟨nm, N', qn, bs, bm, hdct, sn, sub, ab, col, dd, k0, k1, k2, k3, k5, hC, hT⟩ := PySem.W.excInit_of I1.kIn T.ini
  refine wpAny_call (PySem.HandSPX.call_own F.excBase_Exception hT hC (looks_findIn I1.kIn iC) (fun self => PySem.W.bind_fn I1.kIn self tI) (by rw [hul, sizeLine_eq]; omega) ?_)
  have hsz : hp.objs.size ≤ hp.objs.size + 1 := Nat.le_succ _
  have kk : ∀ b o, hp.get? b = some o → ((hp.push (PySem.W.kdv_tup us)).push (PySem.HandSPX.excO C hp.objs.size)).get? b = some o := fun b o e => Heap.get?_push_of_some _ (Heap.get?_push_of_some _ e)
  have hget : ((hp.push (PySem.W.kdv_tup us)).push (PySem.HandSPX.excO C hp.objs.size)).get? (hp.objs.size + 1) = some (PySem.HandSPX.excO C hp.objs.size) := by heap_get
  have kin2 : X.K.In ((hp.push (PySem.W.kdv_tup us)).push (PySem.HandSPX.excO C hp.objs.size)) := I1.kIn.keeps kk
  have lim : ((hp.push (PySem.W.kdv_tup us)).push (PySem.HandSPX.excO C hp.objs.size)).NoLimit := I1.mod.nolimit.keeps fun b o e => kk b o (I1.bk b o e)
  have nds : (("self" :: names).map os).Nodup := T.nd.map os fun a b h z => h (os_inj z)
  have ndn : (names.map os).Nodup := (List.nodup_cons.mp nds).2
  have hbl : (Value.ref (hp.objs.size + 1) :: us).length = (("self" :: names).map os).length := by simp [hul]
  obtain ⟨its, dvs, d1, d2, d3, hbind⟩ := clo_binds (K := X.K) (mg := X.mg) (H := H1) (dfl := []) (dV := .none) (fd := ksFn name qual params body scope .none kV doc pm an (.ref cda) ct cc) hpar rfl nds (.inl ⟨rfl, rfl⟩) (s := ⟨(hp.push (PySem.W.kdv_tup us)).push (PySem.HandSPX.excO C hp.objs.size), g, dr, tk, osx⟩) rfl (Value.ref (hp.objs.size + 1) :: us) (by simp [hul]) (by simp [hul])
  have hits : its = [] := by
    have : its.length = 0 := by simp [hul] at d3; exact List.length_eq_zero_iff.mpr d3
    exact List.length_eq_zero_iff.mp this
  subst hits
  rw [List.append_nil] at hbind
  refine ks_codeAny_call_defAt (fd := ksFn name qual params body scope .none kV doc pm an (.ref cda) ct cc) (body := body) ?_ (kin2 _ _ lf) rfl lim (PySem.W.codeRec_of kin2 hcd) rfl hbind hcell (fun y hy => ?_) (fun h₁ hns k₁ => ?_) hco hgen hk
  · rw [make_depth]
    have := hr.dp
    omega
  · have hm1 := (List.of_mem_zip (show (y.1, y.2) ∈ _ from hy)).1
    obtain ⟨f, hf, e⟩ := List.mem_map.mp hm1
    rw [← e]
    exact hloc f hf
  have look : ∀ (i : Nat) (f : String) (u : Value), ("self" :: names)[i]? = some f → (Value.ref (hp.objs.size + 1) :: us)[i]? = some u → ((("self" :: names).map os).zip (Value.ref (hp.objs.size + 1) :: us)).reverse.lookup (os f) = some u := fun i f u h1 h2 =>
    rev_look nds hbl (by rw [List.getElem?_map, h1]; rfl) h2
  have I0 : IS hp h₁ ((hp.push (PySem.W.kdv_tup us)).push (PySem.HandSPX.excO C hp.objs.size)).objs.size (hp.objs.size + 1) C (fun y => ((("self" :: names).map os).zip (Value.ref (hp.objs.size + 1) :: us)).reverse.lookup y) [] :=
    ⟨fun b o q => k₁ b o (kk b o q), hns, by rw [Heap.size_push, Heap.size_push]; exact Nat.succ_ne_self _, hsz, _, .inl ⟨rfl, k₁ _ _ hget⟩⟩
  refine run_init T I1.mod I1.bk I1.kIn lf lc hvs hfile lcc hpar hbody hk hks hkc hloc hul hlen9 (look 0 "self" _ rfl rfl) (fun p hp' => ?_) I0 fun h' tk' J => ?_
  · obtain ⟨i, hi⟩ := List.mem_iff_getElem?.mp hp'
    obtain ⟨a, b⟩ := List.getElem?_zip_eq_some.mp hi
    exact look (i + 1) p.1 p.2 (by simpa using a) (by simpa using b)
  · refine ⟨rfl, ?_⟩
    show MkP X pins σ Q (.ref (hp.objs.size + 1)) ⟨h', g, dr, tk', osx⟩
    obtain ⟨t0, h0 | ⟨_, dx, mA, hbig, hde, _, he, hns1, hmA⟩⟩ := J.at_
    · have := h0.1
      have hz : (names.zip us).length = 0 := by
        have := congrArg List.length this
        simpa using this
      rw [List.length_zip, hul, Nat.min_self] at hz
      exact absurd (List.length_eq_zero_iff.mp hz) T.ne
    obtain ⟨G, g1', g2'⟩ := restrict h' fun b => decide (b ≠ hp.objs.size + 1)
    have gk : ∀ b, b ≠ hp.objs.size + 1 → G.get? b = h'.get? b := fun b hb => g1' b (decide_eq_true hb)
    have ge : G.get? (hp.objs.size + 1) = none := g2' _ (by simp)
    have hkeep : ∀ b o, hp.get? b = some o → G.get? b = some o := fun b o q => by
      rw [gk b fun z => by rw [z, J.new] at q; cases q]
      exact J.keep b o q
    have hrel : ∀ y, RelO (((names.map os).zip vs).lookup y) (mA y) := fun y => by
      rw [hmA y]
      have e : ((names.zip us).map fun p => (os p.1, p.2)) = (names.map os).zip us := by rw [List.zip_map_left]; rfl
      rw [e]
      exact relO_fields ndn r1 (by rw [List.length_map]; exact hul) y
    have hH : H1 dx = none := I1.hok.fresh hbig
    have Jv : Inv X pins σ (upd H1 dx (.xd ((names.map os).zip vs))) ⟨G, g, dr, tk', osx⟩ := I1.laid (t' := tk') (h' := G) (a := dx) (o := .xd ((names.map os).zip vs)) hkeep hbig ⟨mA, hns1.at fun o q => (gk dx hde).trans q, hrel⟩
    refine ⟨hp.objs.size + 1, _, _, ⟨G, g, dr, tk', osx⟩, _, .ref C, some dx, rfl, Jv, fun b o q => ?_, ge, he, ⟨rfl, rfl⟩, rfl, rfl, ?_, rfl, I1.bare, raises_own exC tyC, (q1 C hm).1 dx hH⟩
    · by_cases hb : b = hp.objs.size + 1
      · rw [hb, ge] at q
        cases q
      · rw [← gk b hb]
        exact q
    · rw [upd_ne (Ne.symm hde)]
      exact I1.hok.fresh hsz
end PS
set_option maxHeartbeats 4000000
/-! PS, part 41: a program's names, told by a Bool over the written part. -/
namespace PS
open PySem PySem.Spec PyProof.Rows L2 PD
open PySem.W (findIn clsIn subIn mroIn typeIn nsIn codeIn keepIn excOver excInitIn ks_superIn ksFn ksEnv fnOf codeHdIn exmOne)
abbrev Fg := PySem.W.Frag
def glo (K : Fg) (x : String) : Option Value := match nsIn K mainGlobals (os x) with | some (some v) => some v | _ => none
def noGlo (K : Fg) (x : String) : Bool := match nsIn K mainGlobals (os x) with | some none => true | _ => false
section
variable {K : Fg} {h : Heap} {mg : Str → Option Value} {x : String} {v : Value}
theorem glo_ok (X : K.In h) (G : h.Ns mainGlobals mg) (e : glo K x = some v) : mg (os x) = some v := by
  unfold glo at e
  split at e
  · rename_i q; cases e; exact PySem.W.mg_of X G q
  · cases e
theorem noGlo_ok (X : K.In h) (G : h.Ns mainGlobals mg) (e : noGlo K x = true) : mg (os x) = none := by
  unfold noGlo at e
  split at e
  · rename_i q; exact PySem.W.mg_none_of X G q
  · cases e
end
mutual
/-- a constant of the written part -/
def repIn (K : Fg) : D → Value → Bool
  | .non, .none => true
  | .bl a, .bool b => a == b
  | .int i, .int j _ => i == j
  | .str s, .str x _ => s == x.cps.toList
  | .ty n, .type m => n == m
  | .fn f, .ref a => (match glo K f with | some (.ref b) => b == a | _ => false) && keepIn K (.ref a)
  | .tup xs, .ref a => (match K.lookup a with
    | some ⟨.type t, _, .seq its _, _⟩ => t == "tuple" && decide (its.size ≤ sizeLine) && repsIn K xs its.toList
    | _ => false)
  | _, _ => false
def repsIn (K : Fg) : List D → List Value → Bool
  | [], [] => true
  | d :: ds, u :: us => repIn K d u && repsIn K ds us
  | _, _ => false
end
section
variable {K : Fg} {h : Heap} {mg : Str → Option Value}
mutual
theorem repIn_ok (X : K.In h) (G : h.Ns mainGlobals mg) : ∀ {d : D} {u : Value}, repIn K d u = true → ∃ v, RelV v u ∧ ∀ H, Rep K mg H d v
  | .non, u, e => by cases u <;> first | exact ⟨.non, rfl, fun H => .non⟩ | exact (Bool.false_ne_true e).elim
  | .bl a, u, e => by
    cases u with
    | bool b => cases eq_of_beq (show (a == b) = true from e); exact ⟨.bl a, rfl, fun H => .bl a⟩
    | _ => exact (Bool.false_ne_true e).elim
  | .int i, u, e => by
    cases u with
    | int j t => cases eq_of_beq (show (i == j) = true from e); exact ⟨.int i, ⟨t, rfl⟩, fun H => .int i⟩
    | _ => exact (Bool.false_ne_true e).elim
  | .str s, u, e => by
    cases u with
    | str x t => cases eq_of_beq (show (s == x.cps.toList) = true from e); exact ⟨.str x, ⟨t, rfl⟩, fun H => .str _⟩
    | _ => exact (Bool.false_ne_true e).elim
  | .ty n, u, e => by
    cases u with
    | type m => cases eq_of_beq (show (n == m) = true from e); exact ⟨.ty n, rfl, fun H => .ty n⟩
    | _ => exact (Bool.false_ne_true e).elim
  | .fn f, u, e => by
    cases u with
    | ref a =>
      have e' : ((match glo K f with | some (.ref b) => b == a | _ => false) && keepIn K (.ref a)) = true := e
      rw [Bool.and_eq_true] at e'
      obtain ⟨e1, e2⟩ := e'
      split at e1
      · rename_i b q
        cases eq_of_beq e1
        exact ⟨.ref a, rfl, fun H => .fn (glo_ok X G q) e2⟩
      · cases e1
    | _ => exact (Bool.false_ne_true e).elim
  | .tup xs, u, e => by
    cases u with
    | ref a =>
      have e' : (match K.lookup a with
        | some ⟨.type t, _, .seq its _, _⟩ => t == "tuple" && decide (its.size ≤ sizeLine) && repsIn K xs its.toList
        | _ => false) = true := e
      split at e'
      · rename_i t od its n sl q
        simp only [Bool.and_eq_true, decide_eq_true_eq] at e'
        obtain ⟨⟨e1, e2⟩, e3⟩ := e'
        cases eq_of_beq e1
        obtain ⟨vs, r, q2⟩ := repsIn_ok X G e3
        exact ⟨.ref a, rfl, fun H => .tup (.inr ⟨_, its, n, q, rfl, rfl, e2, r⟩) (q2 H)⟩
      · cases e'
    | _ => exact (Bool.false_ne_true e).elim
  | .fls _, u, e => by cases u <;> exact (Bool.false_ne_true e).elim
  | .ref _, u, e => by cases u <;> exact (Bool.false_ne_true e).elim
theorem repsIn_ok (X : K.In h) (G : h.Ns mainGlobals mg) : ∀ {ds : List D} {us : List Value}, repsIn K ds us = true → ∃ vs, Vals vs us ∧ ∀ H, Reps K mg H ds vs
  | [], us, e => by
    cases us with
    | nil => exact ⟨[], .nil, fun H => .nil⟩
    | cons _ _ => exact (Bool.false_ne_true e).elim
  | d :: ds, us, e => by
    cases us with
    | nil => exact (Bool.false_ne_true e).elim
    | cons u us =>
      have e' : (repIn K d u && repsIn K ds us) = true := e
      rw [Bool.and_eq_true] at e'
      obtain ⟨v, r, q⟩ := repIn_ok X G e'.1
      obtain ⟨vs, rs, qs⟩ := repsIn_ok X G e'.2
      exact ⟨v :: vs, .cons r rs, fun H => .cons (q H) (qs H)⟩
end
end
/-! ### built-in names -/
theorem boot_of {x : String} {u : Value} (e : bltU x = some u) (h : x ≠ "gcd") : bootBuiltins (os x) = some u := by
  unfold bltU at e
  split at e <;> cases e
  · exact PyProof.Rows.Boot.«len»
  · exact PyProof.Rows.Boot.«abs»
  · exact PyProof.Rows.Boot.«isinstance»
  · exact PyProof.Rows.Boot.«all»
  · exact PyProof.Rows.Boot.«any»
  · exact PyProof.Rows.Boot.«sum»
  · exact PyProof.Rows.Boot.«max»
  · exact PyProof.Rows.Boot.«min»
  · exact PyProof.Rows.Boot.«sorted»
  · exact absurd rfl h
  · exact PyProof.Rows.Boot.«int»
  · exact PyProof.Rows.Boot.«str»
  · exact PyProof.Rows.Boot.«tuple»
  · exact PyProof.Rows.Boot.«list»
  · exact PyProof.Rows.Boot.«bool»
  · exact PyProof.Rows.Boot.«dict»
  · exact PyProof.Rows.Boot.«range»
  · exact PyProof.Rows.Boot.«enumerate»
  · exact PyProof.Rows.Boot.«zip»
  · exact PyProof.Rows.Boot.«reversed»
/-- a built-in name, left alone (gcd: imported) -/
def bltB (K : Fg) (x : String) : Bool := match bltU x with
  | some u => os x != ("__name__" : Str) && (if x == "gcd" then decide (glo K x = some u) else noGlo K x)
  | none => false
theorem bltB_ok {K : Fg} {h : Heap} {mg : Str → Option Value} (X : K.In h) (G : h.Ns mainGlobals mg) {x : String} (e : bltB K x = true) : ∃ u, bltU x = some u ∧ os x ≠ "__name__" ∧ ((mg (os x) = none ∧ bootBuiltins (os x) = some u) ∨ mg (os x) = some u) := by
  unfold bltB at e
  split at e
  · rename_i u q
    rw [Bool.and_eq_true] at e
    obtain ⟨e1, e2⟩ := e
    refine ⟨u, q, bne_iff_ne.mp e1, ?_⟩
    by_cases hx : x = "gcd"
    · rw [if_pos (beq_iff_eq.mpr hx)] at e2
      exact .inr (glo_ok X G (of_decide_eq_true e2))
    · rw [if_neg (fun z => hx (beq_iff_eq.mp z))] at e2
      exact .inl ⟨noGlo_ok X G e2, boot_of q hx⟩
  · cases e
end PS
set_option maxHeartbeats 4000000
/-! PS, part 42: a program's defs and errors, told by a Bool over the written part. -/
namespace PS
open PySem PySem.Spec PyProof.Rows L2 PD
open PySem.W (findIn clsIn subIn mroIn typeIn nsIn codeIn keepIn excOver excInitIn ks_superIn ksFn ksEnv fnOf codeHdIn exmOne hasDictIn)
def dflB (K : Fg) (dfl : List D) (dV : Value) : Bool := match dfl, dV with
  | [], .none => true
  | d :: ds, .ref t => (match K.lookup t with | some ⟨_, _, .seq its _, _⟩ => repsIn K (d :: ds) its.toList | _ => false)
  | _, _ => false
def scopeB (N P : List Str) (sc : Scope) : Bool :=
  decide (sc.kind = .function) && !sc.isCoroutine && !sc.isGenerator && decide N.Nodup && decide (N.take P.length = P) && (P.all fun x => match sc.names.lookup x with | some .local => true | some .cell => true | _ => false) && sc.names.all fun y => decide (y.2 ≠ .free)
theorem scopeB_ok {N P : List Str} {sc : Scope} (h : scopeB N P sc = true) : FnScope N P sc := by
  unfold scopeB at h
  simp only [Bool.and_eq_true, decide_eq_true_eq, Bool.not_eq_true'] at h
  obtain ⟨⟨⟨⟨⟨⟨h1, h2⟩, h3⟩, h4⟩, h5⟩, h6⟩, h7⟩ := h
  refine ⟨h1, h2, h3, h4, h5, fun x hx => ?_, fun y hy => of_decide_eq_true (List.all_eq_true.mp h7 y hy)⟩
  have := List.all_eq_true.mp h6 x hx
  split at this
  · rename_i q; exact .inl q
  · rename_i q; exact .inr q
  · cases this
/-- the code object of a def, its table, the name of lambdas in it -/
def codeOf (K : Fg) (ts : List Addr) (f : String) : Option (Addr × Addr × Str) := match glo K f with
  | some (.ref fa) => (match K.lookup fa with
    | some ⟨_, _, .func fd, _⟩ => (match fd.code with
      | .ref c => (ts.find? fun P => codeHdIn K c P).map fun P => (c, P, fd.qualname ++ ".<locals>." ++ "<lambda>")
      | _ => none)
    | _ => none)
  | _ => none
def csOf (T : Tb) (K : Fg) (ts : List Addr) : List (Addr × Addr × Str) := T.fns.filterMap fun p => codeOf K ts p.1
def tabsOf (T : Tb) (K : Fg) (ts : List Addr) : List (Addr × Str) := (csOf T K ts).map (·.2)
def defB (T : Tb) (K : Fg) (ts : List Addr) (f : String) (F : FnD) : Bool := match glo K f with
  | some (.ref fa) => (match K.lookup fa with
    | some ⟨_, _, .func fd, _⟩ => keepIn K (.ref fa) && fd.closure.isEmpty && decide (fd.globals = mainGlobals) && decide (fd.builtins = builtinsNs) && codeIn K fd.code fd.qualname && argsB fd.params F.ps fd.params.defaults.length && decide (F.dfl.length ≤ F.ps.length) &&
        dflB K F.dfl fd.defaults && scopeB (F.N.map os) (F.ps.map os) fd.scope && (match fd.body with | .stmts body => chkB T F.body ⟨true, (codeOf K ts f).isSome⟩ fd.scope F.N body | _ => false)
    | _ => false)
  | _ => false
section
variable {T : Tb} {K : Fg} {h base : Heap} {mg : Str → Option Value} {ts : List Addr} {f : String} {F : FnD}
theorem fd_eta {fd : FuncData} {body : List Stmt} (h1 : fd.closure.isEmpty = true) (h2 : fd.globals = mainGlobals) (h3 : fd.builtins = builtinsNs) (h4 : fd.body = .stmts body) :
    fd = fnOf fd.name fd.qualname fd.params body fd.scope fd.defaults fd.kwdefaults fd.doc fd.pyModule fd.annotations fd.code fd.closureTuple := by
  obtain ⟨n, q, p, b, s, g, c, d, k, dc, pm, an, cd, ct, bi⟩ := fd
  dsimp only at h1 h2 h3 h4
  rw [List.isEmpty_iff] at h1
  subst h1 h2 h3 h4
  rfl
/-- what a def's check tells -/
theorem defB_parts (X : K.In h) (G : h.Ns mainGlobals mg) (e : defB T K ts f F = true) : ∃ (fa : Addr) (oc : Value) (od : Option Addr) (osl : Array (Option Value)) (fd : FuncData) (body : List Stmt),
    glo K f = some (.ref fa) ∧ K.lookup fa = some ⟨oc, od, .func fd, osl⟩ ∧ keepIn K (.ref fa) = true ∧ fd = fnOf fd.name fd.qualname fd.params body fd.scope fd.defaults fd.kwdefaults fd.doc fd.pyModule fd.annotations fd.code fd.closureTuple ∧
      codeIn K fd.code fd.qualname = true ∧ FnScope (F.N.map os) (F.ps.map os) fd.scope ∧ chkB T F.body ⟨true, (codeOf K ts f).isSome⟩ fd.scope F.N body = true ∧ FnIn K mg F f fa fd := by
  unfold defB at e
  split at e
  · rename_i fa q1
    split at e
    · rename_i oc od fd osl q2
      simp only [Bool.and_eq_true, decide_eq_true_eq] at e
      obtain ⟨⟨⟨⟨⟨⟨⟨⟨⟨e1, e2⟩, e3⟩, e4⟩, e5⟩, e6⟩, e7⟩, e8⟩, e9⟩, e10⟩ := e
      split at e10
      · rename_i body q3
        have FS := scopeB_ok e9
        refine ⟨fa, oc, od, osl, fd, body, q1, q2, e1, fd_eta e2 e3 e4 q3, e5, FS, e10, glo_ok X G q1, ⟨oc, od, osl, q2⟩, e6, ?_, e7, ?_⟩
        · have := FS.nd
          rw [← FS.pre]
          exact this.sublist (List.take_sublist _ _)
        · unfold dflB at e8
          split at e8
          · rename_i q; exact .inl ⟨by assumption, by assumption⟩
          · rename_i d ds t qd qv
            split at e8
            · rename_i oc' od' its n osl' q5
              obtain ⟨vs, r, q6⟩ := repsIn_ok X G e8
              exact .inr ⟨t, _, its.toList, n, vs, qv, q5, by simp, by rw [qd]; simp, r, fun H => by rw [qd]; exact q6 H⟩
            · cases e8
          · cases e8
      · cases e10
    · cases e
  · cases e
theorem codeOf_parts {c P : Addr} {nm : Str} (e : codeOf K ts f = some ((c, P, nm) : Addr × Addr × Str)) : ∃ fa oc od osl fd, glo K f = some (.ref fa) ∧ K.lookup fa = some ⟨oc, od, .func fd, osl⟩ ∧ fd.code = .ref c ∧ P ∈ ts ∧ codeHdIn K c P = true ∧ nm = fd.qualname ++ ".<locals>." ++ "<lambda>" := by
  unfold codeOf at e
  split at e
  · rename_i fa q1
    split at e
    · rename_i oc od fd osl q2
      split at e
      · rename_i c' q3
        obtain ⟨P', h1, h2⟩ := Option.map_eq_some_iff.mp e
        cases h2
        have hp := List.find?_some h1
        exact ⟨fa, oc, od, osl, fd, q1, q2, q3, List.mem_of_find?_eq_some h1, hp, rfl⟩
      · cases e
    · cases e
  · cases e
end
/-! ### errors -/
def errCB (P : Program) (K : Fg) (C : Addr) (names : List String) : Bool :=
  excOver K C exT && hasDictIn K C && decide (findIn K (.ref C) "__setattr__" = some (some (.builtin "object.__setattr__"))) && excInitIn K C exT "Exception.__new__" && noGlo K "super" && !(P.main.scope.names.lookup ("super" : Str)).isSome &&
    decide (nsIn K cStatics "thirdparty.any" = some none) && decide (subIn K (.ref C) (.type "Exception") = some true) && decide (mroIn K C (.ref C) = some true) && (names.all fun f => decide (findIn K (.ref C) (os f) = some none) && !(os f == ("__debug__" : Str))) &&
    decide ("self" :: names).Nodup && !names.isEmpty && decide (ks_superIn K C C "__init__" = some (some (.builtin "Exception.__init__"))) && decide (names.length ≤ 900) &&
    (match findIn K (.ref C) "__init__" with
      | some (some (.ref fI)) => decide (typeIn K (.ref fI) = some (.type "function")) && (match K.lookup fI with
        | some ⟨_, _, .func fd, _⟩ => decide (fd.globals = mainGlobals) && decide (fd.builtins = builtinsNs) && (match fd.closure, fd.defaults, fd.code, fd.body with
          | [(k, cc)], .none, .ref cda, .stmts body => k == ("__class__" : Str) && codeIn K (.ref cda) fd.qualname && (match K.lookup cda with
              | some ⟨_, _, .fields vs, _⟩ => (match (vs[2]? : Option Value) with | some (.str file _) => (P.main.file : Str) == file | _ => false)
              | _ => false) && (match K.lookup cc with
              | some ⟨_, _, .cell (some (.ref C')), _⟩ => C' == C
              | _ => false) && argsB fd.params ("self" :: names) 0 && initB names body && decide (fd.scope.kind = .function) && !fd.scope.isCoroutine && !fd.scope.isGenerator && (fd.scope.names.all fun x => decide (x.2 ≠ .cell)) &&
              decide (fd.scope.names.lookup ("super" : Str) = some .globalImplicit) && decide (fd.scope.names.lookup ("__class__" : Str) = some .free) && (("self" :: names).all fun f => decide (fd.scope.names.lookup (os f) = some .local))
          | _, _, _, _ => false)
        | _ => false)
      | _ => false)
theorem errCB_ok {P : Program} {K : Fg} {h : Heap} {mg : Str → Option Value} {C : Addr} {names : List String} (X : K.In h) (G : h.Ns mainGlobals mg) (e : errCB P K C names = true) : ErrC P K mg C names ∧ names.length ≤ 900 := by
  unfold errCB at e
  simp only [Bool.and_eq_true, decide_eq_true_eq, Bool.not_eq_true', List.all_eq_true] at e
  obtain ⟨⟨⟨⟨⟨⟨⟨⟨⟨⟨⟨⟨⟨⟨a1, a2⟩, a3⟩, a4⟩, a5⟩, a6⟩, a7⟩, a8⟩, a9⟩, a10⟩, a11⟩, a12⟩, a13⟩, a14⟩, a15⟩ := e
  refine ⟨⟨⟨a1, ?_, a3⟩, a4, noGlo_ok X G a5, a6, a7, a8, a9, fun f hf => a10 f hf, a11, ?_, a13, ?_⟩, a14⟩
  · unfold hasDictIn at a2
    obtain ⟨cd, b1, b2⟩ := PySem.W.any_some a2
    exact ⟨cd, b1, b2⟩
  · intro z
    rw [z] at a12
    cases a12
  · split at a15
    · rename_i fI q1
      rw [Bool.and_eq_true] at a15
      obtain ⟨b1, b2⟩ := a15
      split at b2
      · rename_i oc od fd osl q2
        rw [Bool.and_eq_true, Bool.and_eq_true] at b2
        obtain ⟨⟨b2, b3⟩, b4⟩ := b2
        split at b4
        · rename_i k cc cda body q3 q4 q5 q6
          simp only [Bool.and_eq_true, decide_eq_true_eq, Bool.not_eq_true', List.all_eq_true] at b4
          obtain ⟨⟨⟨⟨⟨⟨⟨⟨⟨⟨⟨⟨c1, c2⟩, c3⟩, c4⟩, c5⟩, c6⟩, c7⟩, c8⟩, c9⟩, c10⟩, c11⟩, c12⟩, c13⟩ := b4
          split at c3
          · rename_i ccl cdd vs ccs q7
            split at c3
            · rename_i file tf q8
              split at c4
              · rename_i cl cld C' csl q9
                cases eq_of_beq c4
                cases eq_of_beq c1
                have eta : fd = ksFn fd.name fd.qualname fd.params body fd.scope .none fd.kwdefaults fd.doc fd.pyModule fd.annotations (.ref cda) fd.closureTuple cc := by
                  obtain ⟨n, q, p, b, s, g, c, d, k, dc, pm, an, cd, ct, bi⟩ := fd
                  dsimp only at q3 q4 q5 q6 b2 b3
                  have b2' : g = mainGlobals := of_decide_eq_true b2
                  have b3' : bi = builtinsNs := of_decide_eq_true b3
                  clear b2 b3
                  subst q3 q4 q5 q6 b2' b3'
                  rfl
                rw [eta] at q2
                exact ⟨fI, cda, cc, fd.name, fd.qualname, fd.params, body, fd.scope, fd.kwdefaults, fd.doc, fd.pyModule, fd.closureTuple, oc, ccl, cl, fd.annotations, od, cdd, cld, osl, ccs, csl, vs, file, tf, q1, of_decide_eq_true b1, q2, c2, q7, q8, c3, q9, c5, c6, c7, c8, c9,
                  fun x hx => c10 x hx, c11, c12, fun f hf => c13 f hf⟩
              · cases c4
            · cases c3
          · cases c3
        · cases b4
      · cases b2
    · cases a15
end PS
set_option maxHeartbeats 4000000
/-! PS, part 43: THE END of a law. -/
namespace PS
open PySem PySem.Spec PyProof.Rows L2 PD
open PySem.W (findIn clsIn subIn mroIn typeIn nsIn codeIn keepIn excOver excInitIn ks_superIn ksFn ksEnv fnOf codeHdIn exmOne hasDictIn)
def errB (P : Program) (T : Tb) (K : Fg) (x : String) (names : List String) : Bool := match glo K x with
  | some (.ref C) => xfB K C && (names.all fun f => decide (findIn K (.ref C) (os f) = some none)) && keepIn K (.ref C) && decide (typeIn K (.ref C) = some (.type "type")) && !(os x == ("__debug__" : Str)) && errCB P K C names &&
      ((T.errs.map (·.1) ++ ["PoolError"]).all fun y => match glo K y with | some (.ref Cy) => decide (exmOne K (.ref C) (.ref Cy) = some (x == y || y == "PoolError")) | _ => false)
  | _ => false
def lawB (K : Fg) : Bool := match glo K "law" with
  | some (.ref fa) => (match K.lookup fa with
    | some ⟨_, _, .func fd, _⟩ => argsB fd.params ["script"] 0 && (match fd.defaults with | .none => true | _ => false)
    | _ => false)
  | _ => false
/-- all that a law's row must tell -/
def allB (P : Program) (T : Tb) (K : Fg) (ts : List Addr) : Bool :=
  (T.fns.all fun p => defB T K ts p.1 p.2) && (T.errs.all fun p => errB P T K p.1 p.2) && (T.gcs.all fun p => match glo K p.1 with | some u => repIn K p.2 u | none => false) && (T.blts.all fun x => bltB K x) &&
    decide ((csOf T K ts).map (·.2.1)).Nodup && ((csOf T K ts).all fun c => (K.lookup c.2.1).isNone) && lawB K
section
variable {P : Program} {w : World} {T : Tb} {K : Fg} {h base : Heap} {mg : Str → Option Value} {ts : List Addr}
theorem errB_parts {x : String} {names : List String} (X : K.In h) (G : h.Ns mainGlobals mg) (e : errB P T K x names = true) : ∃ C, mg (os x) = some (.ref C) ∧ keepIn K (.ref C) = true ∧ (∀ f ∈ names, Fld K C f) ∧ typeIn K (.ref C) = some (.type "type") ∧ (os x == ("__debug__" : Str)) = false ∧ ErrC P K mg C names ∧ names.length ≤ 900 ∧ XfC K C ∧
    ∀ y, ((∃ q ∈ T.errs, q.1 = y) ∨ y = "PoolError") → ∃ Cy, mg (os y) = some (.ref Cy) ∧ exmOne K (.ref C) (.ref Cy) = some (x == y || y == "PoolError") := by
  unfold errB at e
  split at e
  · rename_i C q
    simp only [Bool.and_eq_true, decide_eq_true_eq, Bool.not_eq_true', List.all_eq_true] at e
    obtain ⟨⟨⟨⟨⟨⟨e1, e2⟩, e3⟩, e4⟩, e5⟩, e6⟩, e7⟩ := e
    obtain ⟨c1, c2⟩ := errCB_ok X G e6
    refine ⟨C, glo_ok X G q, e3, fun f hf => ⟨xfB_ok e1, e2 f hf⟩, e4, e5, c1, c2, xfB_ok e1, fun y hy => ?_⟩
    have hm : y ∈ T.errs.map (·.1) ++ ["PoolError"] := by
      rcases hy with ⟨q, hq, rfl⟩ | rfl
      · exact List.mem_append_left _ (List.mem_map.mpr ⟨q, hq, rfl⟩)
      · exact List.mem_append_right _ List.mem_cons_self
    have := e7 y hm
    split at this
    · rename_i Cy q2
      exact ⟨Cy, glo_ok X G q2, of_decide_eq_true this⟩
    · cases this
  · cases e
theorem mem_look {α : Type} {l : List (String × α)} {f : String} {F : α} (h : l.lookup f = some F) : (f, F) ∈ l := by
  induction l with
  | nil => cases h
  | cons p l ih =>
    obtain ⟨g, b⟩ := p
    rw [List.lookup_cons] at h
    by_cases e : f = g
    · subst e
      simp only [beq_self_eq_true] at h
      cases h
      exact List.mem_cons_self
    · rw [show (f == g) = false from beq_eq_false_iff_ne.mpr e] at h
      exact List.mem_cons_of_mem _ (ih h)
/-- what is known of a law's row -/
structure AllOk (P : Program) (T : Tb) (K : Fg) (ts : List Addr) : Prop where
  df : ∀ p ∈ T.fns, defB T K ts p.1 p.2 = true
  er : ∀ p ∈ T.errs, errB P T K p.1 p.2 = true
  gc : ∀ p ∈ T.gcs, ∃ u, glo K p.1 = some u ∧ repIn K p.2 u = true
  bl : ∀ x ∈ T.blts, bltB K x = true
  nd : ((csOf T K ts).map (·.2.1)).Nodup
  no : ∀ c ∈ csOf T K ts, K.lookup c.2.1 = none
  lw : lawB K = true
theorem allB_ok (e : allB P T K ts = true) : AllOk P T K ts := by
  unfold allB at e
  simp only [Bool.and_eq_true, decide_eq_true_eq, List.all_eq_true, Option.isNone_iff_eq_none] at e
  obtain ⟨⟨⟨⟨⟨⟨e1, e2⟩, e3⟩, e4⟩, e5⟩, e6⟩, e7⟩ := e
  refine ⟨e1, e2, fun p hp => ?_, e4, e5, e6, e7⟩
  have := e3 p hp
  split at this
  · rename_i u q; exact ⟨u, q, this⟩
  · cases this
theorem facts_of (A : AllOk P T K ts) (X : K.In h) (G : h.Ns mainGlobals mg) : Facts T K mg where
  fn := fun f hf => by
    unfold fnB at hf
    rw [Bool.or_eq_true, List.any_eq_true, List.any_eq_true] at hf
    rcases hf with ⟨p, h1, h2⟩ | ⟨p, h1, h2⟩
    · obtain ⟨fa, oc, od, osl, fd, body, q1, q2, q3, _⟩ := defB_parts X G (A.df p h1)
      rw [beq_iff_eq.mp h2] at q1
      exact ⟨fa, glo_ok X G q1, q3⟩
    · obtain ⟨C, q1, q2, _⟩ := errB_parts X G (A.er p h1)
      rw [beq_iff_eq.mp h2] at q1
      exact ⟨C, q1, q2⟩
  fns := fun f F hF => by
    obtain ⟨fa, oc, od, osl, fd, body, _, _, _, _, _, _, _, q⟩ := defB_parts X G (A.df (f, F) (mem_look hF))
    exact ⟨fa, fd, q⟩
  err := fun p hp => by
    obtain ⟨C, q1, _, q3, _, _, _, _, _, q4⟩ := errB_parts X G (A.er p hp)
    exact ⟨C, q1, q3, q4⟩
  gc := fun p hp => by
    obtain ⟨u, q1, q2⟩ := A.gc p hp
    obtain ⟨v, r, q⟩ := repIn_ok X G q2
    exact ⟨u, v, glo_ok X G q1, r, q⟩
  blt := fun x hx => bltB_ok X G (A.bl x (by simpa using hx))
theorem errs_of (A : AllOk P T K ts) (X : K.In base) (G : base.Ns mainGlobals mg) : ErrsOk T P w K mg base := by
  rintro Y rfl rfl rfl rfl rfl hc hr p hp
  obtain ⟨C, q1, q2, q3, q4, q5, q6, q7, q8, _⟩ := errB_parts X G (A.er p hp)
  exact err_at q6 q1 q2 q8.exC q4 q5 hr q7
theorem tab_uniq (A : AllOk P T K ts) {a b : Addr × Addr × Str} (ha : a ∈ csOf T K ts) (hb : b ∈ csOf T K ts) (e : a.2.1 = b.2.1) : a = b := by
  obtain ⟨i, hi⟩ := List.mem_iff_getElem?.mp ha
  obtain ⟨j, hj⟩ := List.mem_iff_getElem?.mp hb
  have h1 : ((csOf T K ts).map (·.2.1))[i]? = some a.2.1 := by rw [List.getElem?_map, hi]; rfl
  have h2 : ((csOf T K ts).map (·.2.1))[j]? = some a.2.1 := by rw [List.getElem?_map, hj, e]; rfl
  have hij : i = j := by
    obtain ⟨l1, g1⟩ := List.getElem?_eq_some_iff.mp h1
    obtain ⟨l2, g2⟩ := List.getElem?_eq_some_iff.mp h2
    exact (List.getElem_inj A.nd).mp (g1.trans g2.symm)
  rw [hij, hj] at hi
  exact (Option.some.inj hi).symm
theorem defs_of (A : AllOk P T K ts) (X : K.In base) (G : base.Ns mainGlobals mg) (TB : ∀ c ∈ csOf T K ts, LamX.TabB base mg c.1 c.2.1) (f : String) (F : FnD) (hF : T.fns.lookup f = some F) : DefOk T (tabsOf T K ts) K mg base f F := by
  obtain ⟨fa, oc, od, osl, fd, body, q1, q2, q3, q4, q5, q6, q7, q8⟩ := defB_parts X G (A.df (f, F) (mem_look hF))
  rw [q4] at q2 q8
  refine ⟨fa, fd.name, fd.qualname, fd.params, body, fd.scope, fd.defaults, fd.kwdefaults, fd.doc, fd.pyModule, fd.code, fd.closureTuple, oc, fd.annotations, od, osl, (codeOf K ts f).isSome, q8, q2, q5, q6, q7, fun hs => ?_⟩
  obtain ⟨⟨c, Pt, nm⟩, hc⟩ := Option.isSome_iff_exists.mp hs
  obtain ⟨fa', oc', od', osl', fd', p1, p2, p3, p4, p5, p6⟩ := codeOf_parts hc
  rw [q1] at p1
  cases p1
  rw [q2] at p2
  cases p2
  have hmem : (c, Pt, nm) ∈ csOf T K ts := List.mem_filterMap.mpr ⟨(f, F), mem_look hF, hc⟩
  refine ⟨c, Pt, p3, TB _ hmem, fun L => ?_⟩
  have hn : nm = (envOfC fd.qualname fd.scope L fa fd.code).qual ++ "<lambda>" := p6
  rw [← hn]
  refine ⟨List.mem_map.mpr ⟨(c, Pt, nm), hmem, rfl⟩, fun p hp e => ?_⟩
  obtain ⟨q, hq, rfl⟩ := List.mem_map.mp hp
  rw [tab_uniq A hq hmem e]
/-- the law's promise -/
def spLaw (T : Tb) (K : Fg) (ts : List Addr) (k : Nat) : Sp := fun vs H Q _ => ∃ (a : Addr) (ns : List Int), vs = [.ref a] ∧ SqL K H a (ns.map V.int) ∧ ns.length ≤ 63 ∧ (∀ z ∈ ns, Builtin.Int.intBits z ≤ 1048576) ∧ LamX.Tabs (tabsOf T K ts) H ∧ ∀ H', Q (.bl true) H'
/-- what is to be shown of a law, in plain Lean -/
def LawOk (T : Tb) (k : Nat) : Prop := ∀ (C : Nat → CallT), Calls (fun f => T.fns.lookup f) C → ∀ ns : List Int, ns.length ≤ 63 → (∀ z ∈ ns, Builtin.Int.intBits z ≤ 1048576) → ∀ (x : D) (S : Sto),
  (x = .fls (ns.map .int) ∧ S = fun _ => none) ∨ (∃ a, x = .ref a ∧ S = sup (fun _ => none) a (.lst (ns.map .int))) → C k (.d (.fn "law")) [.d x] S (fun d _ => d = .bl true) noX
theorem reps_ints {H : Hp} : ∀ ns : List Int, Reps K mg H (ns.map .int) (ns.map V.int)
  | [] => .nil
  | i :: r => .cons (.int i) (reps_ints r)
theorem fn_law {k : Nat} (A : AllOk P T K ts) (X : K.In base) (G : base.Ns mainGlobals mg) (TB : ∀ c ∈ csOf T K ts, LamX.TabB base mg c.1 c.2.1) (hl : LawOk T k) {fa : Addr} {fd : FuncData} {F : FnD} (hF : T.fns.lookup "law" = some F) (hps : F.ps = ["script"]) (fi : FnIn K mg F "law" fa fd) :
    FnOk P w K mg base (L2.CX P w) k fa fd [os "script"] (spLaw T K ts k) where
  len := fun vs H Q E ⟨a, ns, e, _⟩ => by rw [e]; rfl
  run := fun B outer s H ar us vs Q E hr e0 hb rv ⟨a, ns, e, hS, hn, hbits, htab, hq⟩ => by
    subst e
    have ft := facts_of (P := P) A X G
    have cl := calls_cv (w := w) (tabs := tabsOf T K ts) ft (errs_of A X G) (defs_of A X G TB)
    have go : ∀ (x : D) (S : Sto), ((x = .fls (ns.map .int) ∧ S = fun _ => none) ∨ (∃ a, x = .ref a ∧ S = sup (fun _ => none) a (.lst (ns.map .int)))) → Rep K mg H x (.ref a) → SRel K mg H S → codeAny (model P w) B (.call (.ref fa) ar) (CR (L2.CX P w) outer P w H s Q E) s := fun x S hx rx hs => by
      refine (hl _ cl ns hn hbits x S hx).2 B outer s H (.ref fa) ar [.ref a] us Q E hr e0 ⟨fa, rfl, fi.at_⟩ (fun F' fa' fd' hF' fi' hul => ?_) (.cons rx .nil) rv htab hs (fun v H' d S' _ _ _ rd q => ?_) (fun _ _ _ _ _ _ _ _ _ _ z => z.elim)
      · rw [hF] at hF'
        cases hF'
        have e1 := fi'.at_
        rw [fi.at_] at e1
        cases e1
        obtain ⟨_, _, _, l1⟩ := fi.lk
        obtain ⟨_, _, _, l2⟩ := fi'.lk
        rw [l1] at l2
        cases l2
        rw [hps]
        exact hb
      · have q' : d = .bl true := q
        subst q'
        cases rd
        exact hq H'
    rcases hS with (hS | ⟨o, hS⟩) | hS
    · exact go (.ref a) (sup (fun _ => none) a (.lst (ns.map .int))) (.inr ⟨a, rfl, rfl⟩) (.ref a) fun b o z => by
        by_cases hba : b = a
        · subst hba
          rw [sup_same] at z
          cases z
          exact ⟨_, hS, reps_ints ns⟩
        · rw [sup_ne hba] at z
          cases z
    · exact go (.fls (ns.map .int)) _ (.inl ⟨rfl, rfl⟩) (.fls (.inl ⟨o, hS⟩) (reps_ints ns)) fun b o z => by cases z
    · exact go (.fls (ns.map .int)) _ (.inl ⟨rfl, rfl⟩) (.fls (.inr hS) (reps_ints ns)) fun b o z => by cases z
end
/-- THE END: the law's row, from the check and the plain law -/
theorem law_end {l : PySem.W.OpenLaw} {q : Program} {loose : List Str} {XP : (Str → Option Value) → Heap → Prop} {d : DefRec} {K : Params → Fg} {as : List Addr} {e : ∀ P, as = (K P).map (·.1)} {ts : List Addr} (T : Tb) (k : Nat) (F : FnD) (hF : T.fns.lookup "law" = some F) (hps : F.ps = ["script"])
    (hn : l.most = some 63) (hdf : d.params.defaults = []) (hnm : d.name = os "law") (hr : Room k callerA) (hB : ∀ p, allB l.prog T (K p) ts = true) (hl : LawOk T k) : PySem.W.WalkO q loose XP (PySem.W.kmHook K as e ts).says l.row.toRowW d [] (fun f vs => PySem.call f vs) := by
  refine LamX.walk_ofTs (n := 63) (k := k) (x := os "script") (K := K) (CX := fun w => L2.CX l.prog w) hn (by rw [sizeLine_eq]; omega) hdf hr (fun w h Y => PySem.W.km_in_of Y) (fun w mg fa h Y KX G hmg => ?_) fun w H s e s' z => ?_
  · have A := allB_ok (hB w.params)
    obtain ⟨fa', oc, od, osl, fd, body, q1, q2, q3, q4, q5, q6, q7, q8⟩ := defB_parts KX G (A.df ("law", F) (mem_look hF))
    have e1 := glo_ok KX G q1
    rw [hnm] at hmg
    rw [hmg] at e1
    cases e1
    refine ⟨fd, (csOf T (K w.params) ts).map fun c => (c.1, c.2.1), spLaw T (K w.params) ts k, fun p hp => ?_, fun p hp => ?_, fun p hp => ?_, fun s u => ?_, fun H a ns h1 h2 h3 h4 => ?_, fun base X2 G2 TB => ?_⟩
    · obtain ⟨⟨c, Pt, nm⟩, hc, rfl⟩ := List.mem_map.mp hp
      obtain ⟨f, _, hc'⟩ := List.mem_filterMap.mp hc
      obtain ⟨_, _, _, _, _, _, _, _, p4, _, _⟩ := codeOf_parts hc'
      exact PySem.W.km_tabs_of Y Pt p4
    · obtain ⟨c, hc, rfl⟩ := List.mem_map.mp hp
      exact A.no c hc
    · obtain ⟨⟨c, Pt, nm⟩, hc, rfl⟩ := List.mem_map.mp hp
      obtain ⟨f, _, hc'⟩ := List.mem_filterMap.mp hc
      obtain ⟨_, _, _, _, _, _, _, _, _, p5, _⟩ := codeOf_parts hc'
      exact PySem.W.codeHd_of_K KX p5
    · have lw := A.lw
      unfold lawB at lw
      rw [q1] at lw
      dsimp only at lw
      rw [q2] at lw
      dsimp only at lw
      rw [Bool.and_eq_true] at lw
      obtain ⟨l1, l2⟩ := lw
      have hdv : fd.defaults = .none := by
        split at l2
        · assumption
        · cases l2
      obtain ⟨its, vs, d1, d2, d3, d4⟩ := clo_binds (K := K w.params) (mg := mg) (H := fun _ => none) (hp := s.heap) (ps := ["script"]) (dfl := []) l1 hdv (by simp) (.inl ⟨rfl, rfl⟩) (s := s) rfl [u] (by simp) (by simp)
      have : its = [] := by
        have : its.length = 0 := by simpa using d3
        exact List.length_eq_zero_iff.mp this
      subst this
      exact d4
    · refine ⟨a, ns, rfl, h4, h1, h2, fun p hp => ?_, fun H' => rfl⟩
      obtain ⟨c, hc, rfl⟩ := List.mem_map.mp hp
      exact ⟨#[], h3 (c.1, c.2.1) (List.mem_map.mpr ⟨c, hc, rfl⟩), by first | exact PySem.W.TriplesOk.nil | trivial | simp [PySem.TriplesOk], fun pos cv z => by cases z⟩
    · obtain ⟨_, _, _, _, fd2, _, r1, r2, _, _, _, _, _, r8⟩ := defB_parts X2 G2 (A.df ("law", F) (mem_look hF))
      rw [q1] at r1
      cases r1
      rw [q2] at r2
      cases r2
      exact fn_law A X2 G2 (fun c hc => TB (c.1, c.2.1) (List.mem_map.mpr ⟨c, hc, rfl⟩)) hl hF hps r8
  · obtain ⟨_, _, _, _, _, _, _, _, _, _, _, _, z⟩ := z
    exact z
end PS
set_option maxHeartbeats 1000000
/-! PW: rules of the calculus, one a construct, for proofs that go from the head. -/
namespace PD
def Sub (A B : Sto) : Prop := ∀ b o, A b = some o → B b = some o
theorem Sub.rfl' {A : Sto} : Sub A A := fun _ _ h => h
theorem Sub.trans {A B D : Sto} (h : Sub A B) (k : Sub B D) : Sub A D := fun b o q => k b o (h b o q)
theorem sup_get {S : Sto} {a : Nat} {o : O} : sup S a o a = some o := if_pos rfl
theorem sup_off {S : Sto} {a b : Nat} {o : O} (h : b ≠ a) : sup S a o b = S b := if_neg h
theorem ne_free {S : Sto} {a p : Nat} {o : O} (h : S a = some o) (n : S p = none) : a ≠ p := fun z => by rw [z, n] at h; cases h
theorem Sub.new {S : Sto} {p : Nat} {o : O} (n : S p = none) : Sub S (sup S p o) := fun b u h => by rw [sup_off (ne_free h n)]; exact h
theorem Sub.add {A S : Sto} {p : Nat} {o : O} (k : Sub A S) (n : S p = none) : Sub A (sup S p o) := k.trans (.new n)
theorem Sub.free {A S : Sto} {p : Nat} (k : Sub A S) (n : S p = none) : A p = none := by
  cases h : A p with
  | none => rfl
  | some o => rw [k p o h] at n; cases n
/-- what is new may be written -/
theorem Sub.put {A S : Sto} {p : Nat} {o : O} (k : Sub A S) (n : A p = none) : Sub A (sup S p o) := fun b u h => by rw [sup_off (ne_free h n)]; exact k b u h
/-- what is wanted, at less than what stands -/
abbrev wkQ (Q : QV) : QV := fun d S' => ∃ S'', Sub S'' S' ∧ Q d S''
abbrev wkX (E : QX) : QX := fun x fs S' => ∃ S'', Sub S'' S' ∧ E x fs S''
theorem wk {Q : QV} {d : D} {S S' : Sto} (h : Sub S S') (k : Q d S) : wkQ Q d S' := ⟨S, h, k⟩
theorem wk' {Q : QV} {d : D} {S : Sto} (k : Q d S) : wkQ Q d S := ⟨S, .rfl', k⟩
theorem call_fn {fns : String → Option FnD} {C : Nat → CallT} (hC : Calls fns C) {f : String} {F : FnD} {n : Nat} {as : List AV} {S : Sto} {Q : QV} {E : QX} (hF : fns f = some F) (hl : as.length = F.ps.length)
    (h : wpB (C n) F.body (endsOf (wkQ Q) (wkX E)) (startE F as) S) : C (n + 1) (.d (.fn f)) as S Q E := hC.weak (hC.fn hF hl h)
theorem call_lam {fns : String → Option FnD} {C : Nat → CallT} (hC : Calls fns C) {ps fr : List String} {b : Ex} {caps : List AV} {dfl : List D} {n : Nat} {as : List AV} {S : Sto} {Q : QV} {E : QX} (h1 : as.length ≤ ps.length) (h2 : ps.length ≤ as.length + dfl.length)
    (h : wpE (C n) b (startL ps as dfl caps) S (wkQ Q) (wkX E)) : C (n + 1) (.clo ps fr b caps dfl) as S Q E := hC.weak (hC.lam h1 h2 h)
variable {C : CallT} {e : Env} {S : Sto} {Q : QV} {E : QX} {K : En}
theorem items_lst {S : Sto} {a : Nat} {xs : List D} (h : S a = some (.lst xs)) : itemsOf S (.ref a) = some xs := by
  show (match S a with | some (.lst xs) => some xs | _ => none) = _
  rw [h]
theorem get_new {S : Sto} {a q : Nat} {o u : O} (h : S a = some o) (n : S q = none) : sup S q u a = some o := by rw [sup_off (ne_free h n)]; exact h
theorem get_off {S : Sto} {a b : Nat} {o u : O} (ne : a ≠ b) (h : S a = some o) : sup S b u a = some o := by rw [sup_off ne]; exact h
/-! statements -/
variable {nx bk ct : Env → Sto → Prop} {rt : D → Sto → Prop} {xx : QXE}
theorem b_nil (h : nx e S) : wpB C [] ⟨nx, rt, bk, ct, xx⟩ e S := h
theorem b_cons {s : St} {r : List St} (h : wpS C s ⟨fun e' S' => wpB C r ⟨nx, rt, bk, ct, xx⟩ e' S', rt, bk, ct, xx⟩ e S) : wpB C (s :: r) ⟨nx, rt, bk, ct, xx⟩ e S := h
theorem s_asg {t : Tg} {x : Ex} (h : wpE C x e S (fun d S1 => tgW S1 t d e fun e' => nx e' S1) (fun n fs S1 => xx n fs e S1)) : wpS C (.asg t x) ⟨nx, rt, bk, ct, xx⟩ e S := h
theorem s_ex {x : Ex} (h : wpE C x e S (fun _ S1 => nx e S1) (fun n fs S1 => xx n fs e S1)) : wpS C (.ex x) ⟨nx, rt, bk, ct, xx⟩ e S := h
theorem s_ret {x : Ex} (h : wpE C x e S rt (fun n fs S1 => xx n fs e S1)) : wpS C (.ret x) ⟨nx, rt, bk, ct, xx⟩ e S := h
theorem s_retn (h : rt .non S) : wpS C .retn ⟨nx, rt, bk, ct, xx⟩ e S := h
theorem s_pass (h : nx e S) : wpS C .pass ⟨nx, rt, bk, ct, xx⟩ e S := h
theorem s_brk (h : bk e S) : wpS C .brk ⟨nx, rt, bk, ct, xx⟩ e S := h
theorem s_cnt (h : ct e S) : wpS C .cnt ⟨nx, rt, bk, ct, xx⟩ e S := h
/-- a test and its two ways -/
def ifW (S : Sto) (x : D) (A B : Prop) : Prop := ∃ k, tru S x = some k ∧ if k = true then A else B
theorem s_if {t : Ex} {a b : List St} (h : wpE C t e S (fun x S1 => ifW S1 x (wpB C a ⟨nx, rt, bk, ct, xx⟩ e S1) (wpB C b ⟨nx, rt, bk, ct, xx⟩ e S1)) (fun n fs S1 => xx n fs e S1)) : wpS C (.ifs t a b) ⟨nx, rt, bk, ct, xx⟩ e S := h
theorem if_t {A B : Prop} (h : A) : ifW S (.bl true) A B := ⟨true, rfl, h⟩
theorem if_f {A B : Prop} (h : B) : ifW S (.bl false) A B := ⟨false, rfl, h⟩
theorem if_dec {A B p : Prop} [Decidable p] (h1 : p → A) (h2 : ¬p → B) : ifW S (.bl (decide p)) A B := ⟨decide p, rfl, by by_cases h : p <;> simp [h] <;> first | exact h1 h | exact h2 h⟩
theorem if_kt {A B : Prop} {k : Bool} (h : k = true) (a : A) : ifW S (.bl k) A B := ⟨k, rfl, by rw [if_pos h]; exact a⟩
theorem if_kf {A B : Prop} {k : Bool} (h : k = false) (b : B) : ifW S (.bl k) A B := ⟨k, rfl, by rw [h]; exact b⟩
theorem if_not {A B : Prop} {k : Bool} (h : ifW S (.bl k) B A) : ifW S (.bl (!k)) A B := by
  obtain ⟨k', h1, h2⟩ := h
  cases h1
  exact ⟨!k, rfl, by cases k <;> exact h2⟩
theorem if_b {A B : Prop} {k : Bool} (h1 : k = true → A) (h2 : k = false → B) : ifW S (.bl k) A B := ⟨k, rfl, by cases k with | true => exact h1 rfl | false => exact h2 rfl⟩
theorem if_int {A B : Prop} {i : Int} (h1 : i ≠ 0 → A) (h2 : i = 0 → B) : ifW S (.int i) A B := ⟨i != 0, rfl, by by_cases h : i = 0 <;> simp [h] <;> first | exact h2 h | exact h1 h⟩
theorem s_rse {x : String} {fs : List String} {es : List Ex} (h : wpL C es e S (fun ds S1 => fs.length = ds.length ∧ xx x (fs.zip ds) e S1) (fun n fs S1 => xx n fs e S1)) : wpS C (.rse x fs es) ⟨nx, rt, bk, ct, xx⟩ e S := h
theorem s_sidx {a i x : Ex} (h : wpE C x e S (fun v S1 => wpE C a e S1 (fun p S2 => wpE C i e S2 (fun y S3 => sidxW S3 p y v fun S4 => nx e S4)
      (fun n fs S1 => xx n fs e S1)) (fun n fs S1 => xx n fs e S1)) (fun n fs S1 => xx n fs e S1)) : wpS C (.sidx a i x) ⟨nx, rt, bk, ct, xx⟩ e S := h
theorem s_aug {i : Nat} {o : Bo} {x : Ex} {v : D} (g : e[i]? = some (some (.d v))) (h : wpE C x e S (fun y S1 => augW o v y fun z => nx (e.set i (some (.d z))) S1) (fun n fs S1 => xx n fs e S1)) : wpS C (.aug i o x) ⟨nx, rt, bk, ct, xx⟩ e S := ⟨v, g, h⟩
theorem s_try {b : List St} {xs : List String} {is : List Nat} {hs : List (List St)} (h : wpB C b ⟨nx, rt, bk, ct, fun x fs e' S' => wpH C xs is hs ⟨nx, rt, bk, ct, xx⟩ x fs e' S'⟩ e S) : wpS C (.tryx b xs is hs) ⟨nx, rt, bk, ct, xx⟩ e S := h
theorem s_for {t : Tg} {it : Ex} {b : List St} (h : wpI C it e S (fun ds stay S1 => ∃ W : Nat → Env → Sto → Prop, W 0 e S1 ∧ ∀ i e S, W i e S → stay S ∧
      (∀ d, ds[i]? = some d → tgW S t d e fun e' => wpB C b ⟨W (i + 1), rt, nx, W (i + 1), xx⟩ e' S) ∧ (i = ds.length → nx e S)) (fun n fs S1 => xx n fs e S1)) : wpS C (.for t it b) ⟨nx, rt, bk, ct, xx⟩ e S := h
theorem s_whl {t : Ex} {b : List St} (W : Nat → Env → Sto → Prop) {m : Nat} (h0 : W m e S) (h : ∀ m e S, W m e S → wpE C t e S (fun x S1 => ifW S1 x (wpB C b ⟨fun e' S' => ∃ m', m' < m ∧ W m' e' S', rt, nx, fun e' S' => ∃ m', m' < m ∧ W m' e' S', xx⟩ e S1) (nx e S1)) (fun n fs S1 => xx n fs e S1)) :
    wpS C (.whl t b) ⟨nx, rt, bk, ct, xx⟩ e S := ⟨W, ⟨m, h0⟩, h⟩
/-! targets -/
theorem t_n {i : Nat} {d : D} {F : Env → Prop} (h : Nat.blt i e.length = true) (k : F (e.set i (some (.d d)))) : tgW S (.n i) d e F := ⟨by simpa using h, k⟩
theorem t_t {ts : List Tg} {xs : List D} {F : Env → Prop} (k : tgsW S ts xs e F) : tgW S (.t ts) (.tup xs) e F := ⟨xs, .inl rfl, k⟩
theorem t_l {ts : List Tg} {a : Nat} {xs : List D} {F : Env → Prop} (h : S a = some (.lst xs)) (k : tgsW S ts xs e F) : tgW S (.t ts) (.ref a) e F := ⟨xs, .inr ⟨a, rfl, h⟩, k⟩
theorem ts_nil {F : Env → Prop} (k : F e) : tgsW S [] [] e F := ⟨rfl, k⟩
theorem ts_cons {t : Tg} {ts : List Tg} {d : D} {r : List D} {F : Env → Prop} (k : tgW S t d e fun e' => tgsW S ts r e' F) : tgsW S (t :: ts) (d :: r) e F := ⟨d, r, rfl, k⟩
/-! expressions -/
theorem e_var {i : Nat} {d : D} (g : e[i]? = some (some (.d d))) (k : Q d S) : wpE C (.var i) e S Q E := ⟨d, g, k⟩
theorem e_non (k : Q .non S) : wpE C .non e S Q E := k
theorem e_bl {b : Bool} (k : Q (.bl b) S) : wpE C (.bl b) e S Q E := k
theorem e_int {i : Int} (k : Q (.int i) S) : wpE C (.int i) e S Q E := k
theorem e_str {s : List Nat} (k : Q (.str s) S) : wpE C (.str s) e S Q E := k
theorem e_gfn {x : String} (k : Q (.fn x) S) : wpE C (.gfn x) e S Q E := k
theorem e_gc {x : String} {d : D} (k : Q d S) : wpE C (.gc x d) e S Q E := k
theorem e_ty {x : String} (k : Q (.ty x) S) : wpE C (.ty x) e S Q E := k
theorem e_tup {es : List Ex} (h : wpL C es e S (fun ds S' => Q (.tup ds) S') E) : wpE C (.tup es) e S Q E := h
theorem e_lst {es : List Ex} (h : wpL C es e S (fun ds S' => ∀ p, S' p = none → Q (.ref p) (sup S' p (.lst ds))) E) : wpE C (.lst es) e S Q E := h
/-- a new thing, its store by name -/
def NewE (S : Sto) (o : O) (Q : QV) : Prop := ∀ p S2, S p = none → S2 = sup S p o → Q (.ref p) S2
theorem new_in {o : O} (h : ∀ p S2, S p = none → Sub S S2 → S2 p = some o → Q (.ref p) S2) : NewE S o Q := fun p S2 hp e => h p S2 hp (by rw [e]; exact .new hp) (by rw [e]; exact sup_get)
theorem newE_eq : NewE S o Q = ∀ p, S p = none → Q (.ref p) (sup S p o) := propext ⟨fun h p hp => h p _ hp rfl, fun h p S2 hp e => by rw [e]; exact h p hp⟩
theorem e_lstE {es : List Ex} (h : wpL C es e S (fun ds S1 => NewE S1 (.lst ds) Q) E) : wpE C (.lst es) e S Q E := by
  simp only [newE_eq] at h
  exact h
theorem z_lstE {a : Nat} {s : List D} {lo hi : Option Int} (h : S a = some (.lst s)) (q : NewE S (.lst (cutL s lo hi)) Q) : slcW S (.ref a) lo hi Q := by
  rw [newE_eq] at q
  show (match S a with | some (.lst xs) => _ | _ => False)
  rw [h]
  exact q
theorem o_addlE {a b : Nat} {i j : List D} (h1 : S a = some (.lst i)) (h2 : S b = some (.lst j)) (h : i.length + j.length ≤ Line) (k : NewE S (.lst (i ++ j)) Q) : binW S .add (.ref a) (.ref b) Q := by
  rw [newE_eq] at k
  show (match S a, S b with | some (.lst i), some (.lst j) => _ | _, _ => False)
  rw [h1, h2]
  exact ⟨h, k⟩
theorem e_bin {o : Bo} {a b : Ex} (h : wpE C a e S (fun x S1 => wpE C b e S1 (fun y S2 => binW S2 o x y Q) E) E) : wpE C (.bin o a b) e S Q E := h
def negW (S : Sto) (x : D) (Q : QV) : Prop := ∃ i, x = .int i ∧ Q (.int (-i)) S
theorem e_neg {a : Ex} (h : wpE C a e S (fun x S1 => negW S1 x Q) E) : wpE C (.neg a) e S Q E := h
theorem neg_int {i : Int} (k : Q (.int (-i)) S) : negW S (.int i) Q := ⟨i, rfl, k⟩
theorem e_cmp {o : Co} {a b : Ex} (h : wpE C a e S (fun x S1 => wpE C b e S1 (fun y S2 => cmpW S2 o x y fun k => Q (.bl k) S2) E) E) : wpE C (.cmp o a b) e S Q E := h
theorem e_chain {o o' : Co} {a b c : Ex} (h : wpE C a e S (fun x S1 => wpE C b e S1 (fun y S2 => cmpW S2 o x y fun k =>
      if k = true then wpE C c e S2 (fun z S3 => cmpW S3 o' y z fun k' => Q (.bl k') S3) E else Q (.bl false) S2) E) E) : wpE C (.chain o o' a b c) e S Q E := h
def notW (S : Sto) (x : D) (Q : QV) : Prop := ∃ k, tru S x = some k ∧ Q (.bl (!k)) S
theorem e_not {a : Ex} (h : wpE C a e S (fun x S1 => notW S1 x Q) E) : wpE C (.not a) e S Q E := h
theorem not_bl {b : Bool} (k : Q (.bl (!b)) S) : notW S (.bl b) Q := ⟨b, rfl, k⟩
theorem e_and {a b : Ex} (h : wpE C a e S (fun x S1 => ifW S1 x (wpE C b e S1 Q E) (Q x S1)) E) : wpE C (.and a b) e S Q E := h
theorem e_or {a b : Ex} (h : wpE C a e S (fun x S1 => ifW S1 x (Q x S1) (wpE C b e S1 Q E)) E) : wpE C (.or a b) e S Q E := h
theorem e_ite {t a b : Ex} (h : wpE C t e S (fun x S1 => ifW S1 x (wpE C a e S1 Q E) (wpE C b e S1 Q E)) E) : wpE C (.ite t a b) e S Q E := h
theorem e_idx {a i : Ex} (h : wpE C a e S (fun x S1 => wpE C i e S1 (fun y S2 => idxW S2 x y fun d => Q d S2) E) E) : wpE C (.idx a i) e S Q E := h
theorem e_slc {a : Ex} {lo hi : List Ex} (h : wpE C a e S (fun x S1 => wpL C lo e S1 (fun l S2 => ∃ i, endOf l = some i ∧ wpL C hi e S2 (fun h S3 => ∃ j, endOf h = some j ∧ slcW S3 x i j Q) E) E) E) : wpE C (.slc a lo hi) e S Q E := h
theorem end_nil {P : Option Int → Prop} (k : P none) : ∃ i, endOf [] = some i ∧ P i := ⟨none, rfl, k⟩
theorem end_int {n : Int} {P : Option Int → Prop} (k : P (some n)) : ∃ i, endOf [.int n] = some i ∧ P i := ⟨some n, rfl, k⟩
theorem e_efld {i : Nat} {f : String} {x : String} {fs : List (String × D)} {d : D} (g : e[i]? = some (some (.exc x fs))) (h : fs.lookup f = some d) (k : Q d S) : wpE C (.efld i f) e S Q E := ⟨x, fs, d, g, h, k⟩
theorem e_call {f : String} {es : List Ex} {kws : List String} {dfl : List D} (h : wpA C es e S (fun as S1 => C (.d (.fn f)) (as ++ dfl.map .d) S1 Q E) E) : wpE C (.call f es kws dfl) e S Q E := h
theorem e_call0 {f : String} {es : List Ex} {kws : List String} (h : wpA C es e S (fun as S1 => C (.d (.fn f)) as S1 Q E) E) : wpE C (.call f es kws []) e S Q E := by
  have : (fun (as : List AV) S1 => C (.d (.fn f)) as S1 Q E) = fun as S1 => C (.d (.fn f)) (as ++ ([] : List D).map .d) S1 Q E := by
    funext as S1
    rw [List.map_nil, List.append_nil]
  rw [this] at h
  exact h
theorem e_cloc {i : Nat} {es : List Ex} {a : AV} (g : e[i]? = some (some a)) (c : canCall a) (h : wpA C es e S (fun as S1 => C a as S1 Q E) E) : wpE C (.cloc i es) e S Q E := ⟨a, g, c, h⟩
theorem e_blt {b : Bi} {es : List Ex} (h : wpL C es e S (fun ds S1 => bltW S1 b ds Q) E) : wpE C (.blt b es) e S Q E := h
theorem e_meth {a : Ex} {m : Mt} {es : List Ex} (h : wpE C a e S (fun x S1 => recvW S1 m x ∧ wpL C es e S1 (fun ds S2 => metW S2 m x ds Q) E) E) : wpE C (.meth a m es) e S Q E := h
/-! rows, arguments -/
theorem l_nil {F : List D → Sto → Prop} (k : F [] S) : wpL C [] e S F E := k
theorem l_cons {x : Ex} {r : List Ex} {F : List D → Sto → Prop} (h : wpE C x e S (fun d S1 => wpL C r e S1 (fun ds S2 => F (d :: ds) S2) E) E) : wpL C (x :: r) e S F E := h
theorem a_nil {F : List AV → Sto → Prop} (k : F [] S) : wpA C [] e S F E := k
theorem a_av {i : Nat} {r : List Ex} {F : List AV → Sto → Prop} {a : AV} (g : e[i]? = some (some a)) (n : notX a) (h : wpA C r e S (fun as S2 => F (a :: as) S2) E) : wpA C (.av i :: r) e S F E := ⟨a, g, n, h⟩
theorem a_lam {ps fr : List String} {b : Ex} {caps : List Nat} {dfl : List Ex} {r : List Ex} {F : List AV → Sto → Prop} (h : wpL C dfl e S (fun ds S1 => ∃ cs, capsOf e caps = some cs ∧ wpA C r e S1 (fun as S2 => F (.clo ps fr b cs ds :: as) S2) E) E) : wpA C (.lam ps fr b caps dfl :: r) e S F E := h
theorem caps_ {is : List Nat} {cs : List AV} {P : List AV → Prop} (g : capsOf e is = some cs) (k : P cs) : ∃ cs, capsOf e is = some cs ∧ P cs := ⟨cs, g, k⟩
theorem a_cons {x : Ex} {r : List Ex} {F : List AV → Sto → Prop} (hp : PS.isPl x = true) (h : wpE C x e S (fun d S1 => wpA C r e S1 (fun as S2 => F (.d d :: as) S2) E) E) : wpA C (x :: r) e S F E := by
  cases x <;> first | exact h | cases hp
/-! what is walked -/
theorem i_val {a : Ex} {F : QI} (h : wpE C a e S (fun x S1 => ∃ xs, itemsOf S1 x = some xs ∧ bnd x xs (F xs (stays S1 x) S1)) E) : wpI C (.ival a) e S F E := h
theorem i_enum {a : Ex} {F : QI} (h : wpE C a e S (fun x S1 => ∃ xs, itemsOf S1 x = some xs ∧ bnd x xs (F (enumL 0 xs) (stays S1 x) S1)) E) : wpI C (.ienum a) e S F E := h
def rngW (S : Sto) (ds : List D) (F : QI) : Prop := match ds with
      | [.int n] => -(2 ^ 62) ≤ n ∧ n < 2 ^ 62 ∧ F (rngL 0 n) (fun _ => True) S
      | [.int m, .int n] => -(2 ^ 62) ≤ m ∧ m < 2 ^ 62 ∧ -(2 ^ 62) ≤ n ∧ n < 2 ^ 62 ∧ F (rngL m n) (fun _ => True) S
      | _ => False
theorem i_rng {es : List Ex} {F : QI} (h : wpL C es e S (fun ds S1 => rngW S1 ds F) E) : wpI C (.irng es) e S F E := h
theorem rng_1 {n : Int} {F : QI} (h1 : -(2 ^ 62) ≤ n) (h2 : n < 2 ^ 62) (k : F (rngL 0 n) (fun _ => True) S) : rngW S [.int n] F := ⟨h1, h2, k⟩
theorem rng_2 {m n : Int} {F : QI} (h1 : -(2 ^ 62) ≤ m) (h2 : m < 2 ^ 62) (h3 : -(2 ^ 62) ≤ n) (h4 : n < 2 ^ 62) (k : F (rngL m n) (fun _ => True) S) : rngW S [.int m, .int n] F := ⟨h1, h2, h3, h4, k⟩
theorem rng_len (m n : Int) : (rngL m n).length = (n - m).toNat := by unfold rngL; rw [List.length_map, List.length_range]
theorem rng_get {m n : Int} {i : Nat} {d : D} (h : (rngL m n)[i]? = some d) : d = .int (m + (i : Int)) ∧ i < (n - m).toNat := by
  unfold rngL at h
  rw [List.getElem?_map] at h
  cases hr : (List.range (n - m).toNat)[i]? with
  | none => rw [hr] at h; cases h
  | some k =>
    rw [hr] at h
    obtain ⟨h1, h2⟩ := List.getElem?_eq_some_iff.mp hr
    rw [List.getElem_range] at h2
    subst h2
    exact ⟨(Option.some.inj h).symm, by simpa using h1⟩
theorem i_zip {es : List Ex} {F : QI} (h : wpL C es e S (fun ds S1 => ∃ l, allItems S1 ds = some l ∧ (ds.length = 2 ∨ ds.length = 3) ∧ F (zipL l) (allStay S1 ds) S1) E) : wpI C (.izip es) e S F E := h
theorem it_lst {p : Nat} {xs : List D} {P : List D → Prop} (h : S p = some (.lst xs)) (k : xs.length ≤ Line → P xs) : ∃ xs, itemsOf S (.ref p) = some xs ∧ bnd (.ref p) xs (P xs) := ⟨xs, items_lst h, k⟩
theorem it_tup {xs : List D} {P : List D → Prop} (k : xs.length ≤ Line → P xs) : ∃ ys, itemsOf S (.tup xs) = some ys ∧ bnd (.tup xs) ys (P ys) := ⟨xs, rfl, k⟩
theorem it_fls {xs : List D} {P : List D → Prop} (k : xs.length ≤ Line → P xs) : ∃ ys, itemsOf S (.fls xs) = some ys ∧ bnd (.fls xs) ys (P ys) := ⟨xs, rfl, k⟩
theorem it_str {s : List Nat} {P : List D → Prop} (k : P (s.map fun c => .str [c])) : ∃ ys, itemsOf S (.str s) = some ys ∧ bnd (.str s) ys (P ys) := ⟨_, rfl, k⟩
theorem enum_get : ∀ (xs : List D) (n i : Nat), (enumL n xs)[i]? = (xs[i]?).map fun d => .tup [.int (n + i), d]
  | [], n, i => by simp [enumL]
  | x :: xs, n, 0 => by simp [enumL]
  | x :: xs, n, i + 1 => by
    show (enumL (n + 1) xs)[i]? = _
    rw [enum_get xs (n + 1) i]
    simp only [List.getElem?_cons_succ]
    congr 1
    funext d
    have : ((n + 1 : Nat) : Int) + (i : Int) = (n : Int) + ((i + 1 : Nat) : Int) := by omega
    rw [this]
theorem enum_len : ∀ (xs : List D) (n : Nat), (enumL n xs).length = xs.length
  | [], n => rfl
  | x :: xs, n => by show (enumL (n + 1) xs).length + 1 = _; rw [enum_len xs]; rfl
/-! operators on known kinds -/
theorem o_add {i j : Int} (k : Q (.int (i + j)) S) : binW S .add (.int i) (.int j) Q := k
theorem o_sub {i j : Int} (k : Q (.int (i - j)) S) : binW S .sub (.int i) (.int j) Q := k
theorem o_mul {i j : Int} (h : mulOk i j) (k : Q (.int (i * j)) S) : binW S .mul (.int i) (.int j) Q := ⟨h, k⟩
theorem o_mod {i j : Int} (h : j ≠ 0) (k : Q (.int (i.fmod j)) S) : binW S .mod (.int i) (.int j) Q := ⟨h, k⟩
theorem o_fdiv {i j : Int} (h : j ≠ 0) (h2 : j.natAbs < 2 ^ 9000) (k : Q (.int (i.fdiv j)) S) : binW S .fdiv (.int i) (.int j) Q := ⟨h, h2, k⟩
theorem o_pow {i j : Int} (h : 0 ≤ j) (h1 : j ≤ 1000000) (h2 : i.natAbs < 2 ^ 64) (k : Q (.int (i ^ j.toNat)) S) : binW S .pow (.int i) (.int j) Q := ⟨h, h1, h2, k⟩
theorem o_adds {i j : List Nat} (h : i.length + j.length ≤ Line) (k : Q (.str (i ++ j)) S) : binW S .add (.str i) (.str j) Q := ⟨h, k⟩
theorem o_addt {i j : List D} (h : i.length + j.length ≤ Line) (k : Q (.tup (i ++ j)) S) : binW S .add (.tup i) (.tup j) Q := ⟨h, k⟩
theorem o_addl {a b : Nat} {i j : List D} (h1 : S a = some (.lst i)) (h2 : S b = some (.lst j)) (h : i.length + j.length ≤ Line) (k : ∀ p, S p = none → Q (.ref p) (sup S p (.lst (i ++ j)))) : binW S .add (.ref a) (.ref b) Q := by
  show (match S a, S b with | some (.lst i), some (.lst j) => _ | _, _ => False)
  rw [h1, h2]
  exact ⟨h, k⟩
theorem o_muls {s : List Nat} {n : Int} (h1 : n < 2 ^ 62) (h2 : -(2 ^ 62) ≤ n) (h : s.length * n.toNat ≤ Line) (k : Q (.str (rep n s)) S) : binW S .mul (.str s) (.int n) Q := ⟨h1, h2, h, k⟩
theorem o_mult {s : List D} {n : Int} (h0 : s ≠ []) (h1 : 2 ≤ n) (h2 : n ≤ 1000) (h : s.length ≤ 1000) (k : Q (.tup (rep n s)) S) : binW S .mul (.tup s) (.int n) Q := ⟨h0, h1, h2, h, k⟩
theorem g_add {i j : Int} {F : D → Prop} (k : F (.int (i + j))) : augW .add (.int i) (.int j) F := k
theorem g_sub {i j : Int} {F : D → Prop} (k : F (.int (i - j))) : augW .sub (.int i) (.int j) F := k
theorem g_adds {i j : List Nat} {F : D → Prop} (h : i.length + j.length ≤ Line) (k : F (.str (i ++ j))) : augW .add (.str i) (.str j) F := ⟨h, k⟩
section
variable {F : Bool → Prop} {i j : Int} {s t : List Nat}
theorem c_eq (k : F (decide (i = j))) : cmpW S .eq (.int i) (.int j) F := k
theorem c_ne (k : F (!decide (i = j))) : cmpW S .ne (.int i) (.int j) F := k
theorem c_lt (k : F (decide (i < j))) : cmpW S .lt (.int i) (.int j) F := k
theorem c_le (k : F (decide (i ≤ j))) : cmpW S .le (.int i) (.int j) F := k
theorem c_gt (k : F (decide (j < i))) : cmpW S .gt (.int i) (.int j) F := k
theorem c_ge (k : F (decide (j ≤ i))) : cmpW S .ge (.int i) (.int j) F := k
theorem c_eqs (k : F (decide (s = t))) : cmpW S .eq (.str s) (.str t) F := k
theorem c_nes (k : F (!decide (s = t))) : cmpW S .ne (.str s) (.str t) F := k
theorem c_lts (k : F (decide (s < t))) : cmpW S .lt (.str s) (.str t) F := k
theorem c_les (k : F (!decide (t < s))) : cmpW S .le (.str s) (.str t) F := k
theorem c_ges (k : F (!decide (s < t))) : cmpW S .ge (.str s) (.str t) F := k
theorem c_eql {a b : Nat} {xs ys : List D} (h1 : S a = some (.lst xs)) (h2 : S b = some (.lst ys)) (d1 : dats 40 xs = true) (d2 : dats 40 ys = true) (k : F (eqds xs ys)) : cmpW S .eq (.ref a) (.ref b) F := by
  show (match S a, S b with | some (.lst xs), some (.lst ys) => _ | _, _ => False)
  rw [h1, h2]
  exact ⟨d1, d2, k⟩
theorem c_nel {a b : Nat} {xs ys : List D} (h1 : S a = some (.lst xs)) (h2 : S b = some (.lst ys)) (d1 : dats 40 xs = true) (d2 : dats 40 ys = true) (k : F (!eqds xs ys)) : cmpW S .ne (.ref a) (.ref b) F := c_eql h1 h2 d1 d2 k
theorem c_eqt {xs ys : List D} (d1 : dat 40 (.tup xs) = true) (d2 : dat 40 (.tup ys) = true) (k : F (eqds xs ys)) : cmpW S .eq (.tup xs) (.tup ys) F := ⟨d1, d2, k⟩
theorem c_net {xs ys : List D} (d1 : dat 40 (.tup xs) = true) (d2 : dat 40 (.tup ys) = true) (k : F (!eqds xs ys)) : cmpW S .ne (.tup xs) (.tup ys) F := ⟨d1, d2, k⟩
theorem c_isn {x : D} (k : F (isNon x)) : cmpW S .is x .non F := k
theorem c_isb {x : D} {b : Bool} (k : F (isBl b x)) : cmpW S .is x (.bl b) F := k
theorem c_isnn {x : D} (k : F (!isNon x)) : cmpW S .isnot x .non F := k
theorem c_ins {c : Nat} (k : F (decide (c ∈ t))) : cmpW S .inn (.str [c]) (.str t) F := k
theorem c_nins {c : Nat} (k : F (!decide (c ∈ t))) : cmpW S .notin (.str [c]) (.str t) F := k
end
theorem place_zero {n : Nat} : place (n + 1) 0 = some 0 := by unfold place; rw [if_pos (by decide), if_pos (by omega)]; rfl
theorem place_nat {n k : Nat} (h : k < n) : place n (k : Int) = some k := by unfold place; rw [if_pos (by omega), if_pos (by omega)]; rfl
theorem place_int {n : Nat} {i : Int} (h0 : 0 ≤ i) (h : i < n) : place n i = some i.toNat := by unfold place; rw [if_pos h0, if_pos h]
theorem x_tup {F : D → Prop} {xs : List D} {i : Int} {k : Nat} {d : D} (h : place xs.length i = some k) (g : xs[k]? = some d) (q : F d) : idxW S (.tup xs) (.int i) F := ⟨k, d, h, g, q⟩
theorem x_str {F : D → Prop} {s : List Nat} {i : Int} {k c : Nat} (l : s.length ≤ Line) (h : place s.length i = some k) (g : s[k]? = some c) (q : F (.str [c])) : idxW S (.str s) (.int i) F := ⟨l, k, c, h, g, q⟩
theorem x_lst {F : D → Prop} {a : Nat} {xs : List D} {i : Int} {k : Nat} {d : D} (hS : S a = some (.lst xs)) (h : place xs.length i = some k) (g : xs[k]? = some d) (q : F d) : idxW S (.ref a) (.int i) F := by
  show (match S a with | some (.lst xs) => _ | _ => False)
  rw [hS]
  exact ⟨k, d, h, g, q⟩
theorem y_lst {F : Sto → Prop} {a : Nat} {xs : List D} {i : Int} {k : Nat} {v : D} (hS : S a = some (.lst xs)) (h : place xs.length i = some k) (q : F (sup S a (.lst (xs.set k v)))) : sidxW S (.ref a) (.int i) v F := by
  show (match S a with | some (.lst xs) => _ | _ => False)
  rw [hS]
  exact ⟨k, h, q⟩
theorem z_str {s : List Nat} {lo hi : Option Int} (l : s.length ≤ Line) (q : Q (.str (cutL s lo hi)) S) : slcW S (.str s) lo hi Q := ⟨l, q⟩
theorem z_tup {s : List D} {lo hi : Option Int} (q : Q (.tup (cutL s lo hi)) S) : slcW S (.tup s) lo hi Q := q
theorem z_lst {a : Nat} {s : List D} {lo hi : Option Int} (h : S a = some (.lst s)) (q : ∀ p, S p = none → Q (.ref p) (sup S p (.lst (cutL s lo hi)))) : slcW S (.ref a) lo hi Q := by
  show (match S a with | some (.lst xs) => _ | _ => False)
  rw [h]
  exact q
theorem l_str {s : List Nat} (l : s.length ≤ Line) (q : Q (.int s.length) S) : bltW S .len [.str s] Q := ⟨l, q⟩
theorem l_tup {s : List D} (q : s.length ≤ Line → Q (.int s.length) S) : bltW S .len [.tup s] Q := q
theorem l_lst {a : Nat} {s : List D} (h : S a = some (.lst s)) (q : s.length ≤ Line → Q (.int s.length) S) : bltW S .len [.ref a] Q := by
  show (match S a with | some (.lst xs) => _ | _ => False)
  rw [h]
  exact q
theorem u_abs {i : Int} (q : Q (.int (if i < 0 then -i else i)) S) : bltW S .abs [.int i] Q := q
theorem u_int {i : Int} (q : Q (.int i) S) : bltW S .int [.int i] Q := q
theorem u_intb {b : Bool} (q : Q (.int (if b then 1 else 0)) S) : bltW S .int [.bl b] Q := q
theorem u_gcd {i j : Int} (q : Q (.int (Int.gcd i j)) S) : bltW S .gcd [.int i, .int j] Q := q
theorem u_max {x : D} {n : Int} {ns : List Int} (h : itemsOf S x = some (.int n :: ns.map .int)) (hn : ∀ s, x ≠ .str s) (q : Q (.int (ns.foldl max n)) S) : bltW S .max [x] Q := ⟨n, ns, ⟨h, hn⟩, q⟩
theorem u_min {x : D} {n : Int} {ns : List Int} (h : itemsOf S x = some (.int n :: ns.map .int)) (hn : ∀ s, x ≠ .str s) (q : Q (.int (ns.foldl min n)) S) : bltW S .min [x] Q := ⟨n, ns, ⟨h, hn⟩, q⟩
theorem u_sum {a : Nat} {ns : List Int} (h : S a = some (.lst (ns.map .int))) (q : Q (.int ns.sum) S) : bltW S .sum [.ref a] Q := ⟨ns, ⟨items_lst h, fun s z => (by cases z)⟩, fun xs z => (by cases z), q⟩
theorem u_isi {x y : D} {k : Bool} (h : isinst S x y = some k) (q : Q (.bl k) S) : bltW S .isinstance [x, y] Q := ⟨k, h, q⟩
theorem u_isi_t {x y : D} (h : isinst S x y = some true) (q : Q (.bl true) S) : bltW S .isinstance [x, y] Q := ⟨_, h, q⟩
theorem u_isi_f {x y : D} (h : isinst S x y = some false) (q : Q (.bl false) S) : bltW S .isinstance [x, y] Q := ⟨_, h, q⟩
theorem u_tupl {a : Nat} {xs : List D} (h : S a = some (.lst xs)) (q : Q (.tup xs) S) : bltW S .tuple [.ref a] Q := ⟨xs, ⟨items_lst h, fun s z => by cases z⟩, trivial, q⟩
theorem m_app {a : Nat} {xs : List D} {d : D} (h : S a = some (.lst xs)) (l : xs.length < Line) (q : Q .non (sup S a (.lst (xs ++ [d])))) : metW S .append (.ref a) [d] Q := by
  show (match S a with | some (.lst xs) => _ | _ => False)
  rw [h]
  exact ⟨l, q⟩
theorem r_app {a : Nat} {xs : List D} {P : Prop} (h : S a = some (.lst xs)) (k : P) : recvW S .append (.ref a) ∧ P := ⟨⟨a, xs, rfl, h⟩, k⟩
theorem r_join {s : List Nat} {P : Prop} (k : P) : recvW S .join (.str s) ∧ P := ⟨⟨s, rfl⟩, k⟩
theorem m_join {sep : List Nat} {y : D} {xs : List D} {ss : List (List Nat)} (h : itemsOf S y = some xs) (hn : ∀ s, y ≠ .str s) (h2 : strsOf xs = some ss) (l : (ss.map (·.length)).sum + ss.length * sep.length ≤ Line) (q : Q (.str (joinL sep ss)) S) : metW S .join (.str sep) [y] Q :=
  ⟨xs, ss, ⟨h, hn⟩, h2, l, q⟩
/-- the tests of a comprehension -/
def tsW (S : Sto) (ts : List D) (A B : Prop) : Prop := ∃ k, (match ts with | [] => some true | [t] => tru S t | _ => none) = some k ∧ if k = true then A else B
theorem ts_one {t : D} {A B : Prop} (h : ifW S t A B) : tsW S [t] A B := h
theorem ts_no {A B : Prop} (h : A) : tsW S [] A B := ⟨true, rfl, h⟩
/-- a comprehension over what is walked -/
def compW (C : CallT) (elt : Ex) (tg : Tg) (ifs : List Ex) (e : Env) (Q : QV) (ds : List D) (stay : Sto → Prop) (S1 : Sto) : Prop := ds.length ≤ Line ∧ ∀ p, S1 p = none → ∃ W : Nat → List D → Sto → Prop, W 0 [] (sup S1 p (.lst [])) ∧ ∀ i acc S, W i acc S → S p = some (.lst acc) ∧ stay S ∧
      (∀ d, ds[i]? = some d → tgW S tg d e fun e' => wpL C ifs e' S (fun ts S' => tsW S' ts (wpE C elt e' S' (fun y S'' => S'' p = some (.lst acc) ∧ W (i + 1) (acc ++ [y]) (sup S'' p (.lst (acc ++ [y])))) noX) (W (i + 1) acc S')) noX) ∧ (i = ds.length → Q (.ref p) S)
theorem e_comp {elt : Ex} {tg : Tg} {it : Ex} {ifs : List Ex} {own : List Nat} (h : wpI C it e S (compW C elt tg ifs (datE (wipe e own)) Q) E) : wpE C (.comp elt tg it ifs own) e S Q E := h
theorem comp_by {elt : Ex} {tg : Tg} {ifs : List Ex} {ds : List D} {stay : Sto → Prop} (W : Nat → Nat → List D → Sto → Prop) (hl : ds.length ≤ Line) (h0 : ∀ p, S p = none → W p 0 [] (sup S p (.lst []))) (hW : ∀ p i acc T, S p = none → W p i acc T → T p = some (.lst acc) ∧ stay T)
    (ht : ∀ p i acc T d, S p = none → W p i acc T → ds[i]? = some d → tgW T tg d e fun e' => wpL C ifs e' T (fun ts S' => tsW S' ts (wpE C elt e' S' (fun y S'' => S'' p = some (.lst acc) ∧ W p (i + 1) (acc ++ [y]) (sup S'' p (.lst (acc ++ [y])))) noX) (W p (i + 1) acc S')) noX)
    (hQ : ∀ p acc T, S p = none → W p ds.length acc T → Q (.ref p) T) : compW C elt tg ifs e Q ds stay S :=
  ⟨hl, fun p hp => ⟨W p, h0 p hp, fun i acc T w => ⟨(hW p i acc T hp w).1, (hW p i acc T hp w).2, fun d hd => ht p i acc T d hp w hd, fun z => hQ p acc T hp (by rw [← z]; exact w)⟩⟩⟩
theorem zip_two {x y : D} {xs ys : List D} {F : QI} (h1 : itemsOf S x = some xs) (h2 : itemsOf S y = some ys) (k : F ((xs.zip ys).map fun p => .tup [p.1, p.2]) (allStay S [x, y]) S) : ∃ l, allItems S [x, y] = some l ∧ ([x, y].length = 2 ∨ [x, y].length = 3) ∧ F (zipL l) (allStay S [x, y]) S :=
  ⟨[xs, ys], by simp only [allItems, h1, h2], .inl rfl, k⟩
theorem stay_tt {S T : Sto} {xs ys : List D} : allStay S [.tup xs, .tup ys] T := fun d hd => by
  simp at hd
  rcases hd with rfl | rfl <;> trivial
theorem zip_get {xs ys : List D} {i : Nat} {d : D} (h : ((xs.zip ys).map fun p => D.tup [p.1, p.2])[i]? = some d) : ∃ x y, xs[i]? = some x ∧ ys[i]? = some y ∧ d = .tup [x, y] := by
  rw [List.getElem?_map] at h
  cases hz : (xs.zip ys)[i]? with
  | none => rw [hz] at h; cases h
  | some p =>
    rw [hz] at h
    obtain ⟨h1, h2⟩ := List.getElem?_zip_eq_some.mp hz
    exact ⟨p.1, p.2, h1, h2, (Option.some.inj h).symm⟩
theorem h_hit {x n : String} {xs : List String} {i : Nat} {is : List Nat} {h : List St} {hs : List (List St)} {fs : List (String × D)} (g : (x == n || x == "PoolError") = true)
    (k : wpB C h ⟨fun e' S' => nx (unexc (e'.set i none)) S', rt, fun e' S' => bk (unexc (e'.set i none)) S', fun e' S' => ct (unexc (e'.set i none)) S', fun _ _ _ _ => False⟩ (e.set i (some (.exc n fs))) S) :
    wpH C (x :: xs) (i :: is) (h :: hs) ⟨nx, rt, bk, ct, xx⟩ n fs e S := by
  show (if x = n ∨ x = "PoolError" then _ else _)
  rw [if_pos (by simpa using g)]
  exact k
theorem h_miss {x n : String} {xs : List String} {i : Nat} {is : List Nat} {h : List St} {hs : List (List St)} {fs : List (String × D)} (g : (x == n || x == "PoolError") = false) (k : wpH C xs is hs ⟨nx, rt, bk, ct, xx⟩ n fs e S) : wpH C (x :: xs) (i :: is) (h :: hs) ⟨nx, rt, bk, ct, xx⟩ n fs e S := by
  show (if x = n ∨ x = "PoolError" then _ else _)
  rw [if_neg (by simpa using g)]
  exact k
theorem h_nil {n : String} {fs : List (String × D)} (k : xx n fs e S) : wpH C [] [] [] ⟨nx, rt, bk, ct, xx⟩ n fs e S := k
/-! products are not too great -/
theorem mul_l {i j : Int} (h : i.natAbs < 2 ^ 64) : mulOk i j := .inl h
theorem mul_r {i j : Int} (h : j.natAbs < 2 ^ 64) : mulOk i j := .inr (.inl h)
theorem mul_b {i j : Int} (m n : Nat) (h1 : i.natAbs < 2 ^ m) (h2 : j.natAbs < 2 ^ n) (h : m + n ≤ 134000000) : mulOk i j := .inr (.inr ⟨m, n, h1, h2, h⟩)
theorem fmod_small {i j : Int} (h : 0 < j) (h2 : j.natAbs < 2 ^ 64) : (i.fmod j).natAbs < 2 ^ 64 := by
  have a := Int.fmod_nonneg_of_pos i h
  have b := Int.fmod_lt_of_pos i h
  omega
theorem ite_k {k : Bool} {A B : Prop} (h1 : k = true → A) (h2 : k = false → B) : if k = true then A else B := by cases k with | true => exact h1 rfl | false => exact h2 rfl
theorem lt_one {a b : Nat} : (([a] : List Nat) < [b]) ↔ a < b := by
  constructor
  · intro h
    cases h with
    | rel h => exact h
    | cons h => cases h
  · exact fun h => .rel h
/-- a rest from a place on, a row of signs -/
def run (p : Nat → Bool) : List Nat → Nat
  | [] => 0
  | c :: r => if p c = true then run p r + 1 else 0
theorem run_le (p : Nat → Bool) : ∀ l, run p l ≤ l.length
  | [] => Nat.le_refl _
  | c :: r => by
    unfold run
    split
    · exact Nat.succ_le_succ (run_le p r)
    · exact Nat.zero_le _
theorem run_in (p : Nat → Bool) : ∀ (l : List Nat) (j : Nat) (c : Nat), j < run p l → l[j]? = some c → p c = true
  | [], j, c, h, _ => by cases h
  | d :: r, j, c, h, g => by
    unfold run at h
    split at h
    · rename_i hd
      cases j with
      | zero => simp at g; rw [← g]; exact hd
      | succ j => exact run_in p r j c (Nat.lt_of_succ_lt_succ h) (by simpa using g)
    · cases h
theorem run_out (p : Nat → Bool) : ∀ (l : List Nat) (c : Nat), l[run p l]? = some c → p c = false
  | [], c, g => by cases g
  | d :: r, c, g => by
    unfold run at g
    split at g
    · exact run_out p r c (by simpa using g)
    · rename_i hd
      simp at g
      rw [← g]
      simpa using hd
theorem run_uniq (p : Nat → Bool) (l : List Nat) (k : Nat) (h1 : k ≤ l.length) (h2 : ∀ j c, j < k → l[j]? = some c → p c = true) (h3 : ∀ c, l[k]? = some c → p c = false) : k = run p l := by
  rcases Nat.lt_trichotomy k (run p l) with h | h | h
  · have hk : k < l.length := Nat.lt_of_lt_of_le h (run_le p l)
    have a := run_in p l k _ h (List.getElem?_eq_getElem hk)
    have b := h3 _ (List.getElem?_eq_getElem hk)
    rw [a] at b
    cases b
  · exact h
  · have hk : run p l < l.length := Nat.lt_of_lt_of_le h h1
    have a := h2 _ _ h (List.getElem?_eq_getElem hk)
    have b := run_out p l _ (List.getElem?_eq_getElem hk)
    rw [a] at b
    cases b
theorem lt_9000 {n : Nat} (h : n ≤ 1000000) : n < 2 ^ 9000 := Nat.lt_of_le_of_lt h (by decide)
/-! loops by items -/
theorem for_items {t : Tg} {b : List St} {ds : List D} {stay : Sto → Prop} (W : Nat → Env → Sto → Prop) (h0 : W 0 e S)
    (hs : ∀ i e S, W i e S → stay S) (ht : ∀ i d e S, W i e S → ds[i]? = some d → tgW S t d e fun e' => wpB C b ⟨W (i + 1), rt, nx, W (i + 1), xx⟩ e' S) (he : ∀ e S, W ds.length e S → nx e S) :
    ∃ W : Nat → Env → Sto → Prop, W 0 e S ∧ ∀ i e S, W i e S → stay S ∧ (∀ d, ds[i]? = some d → tgW S t d e fun e' => wpB C b ⟨W (i + 1), rt, nx, W (i + 1), xx⟩ e' S) ∧ (i = ds.length → nx e S) :=
  ⟨W, h0, fun i e S w => ⟨hs i e S w, fun d hd => ht i d e S w hd, fun z => he e S (by rw [← z]; exact w)⟩⟩
end PD
/-! what the laws' texts share (printed by gen.py) -/
namespace PL
open PD
def f__law_take : FnD := { ps := ["box", "many"], N := ["box", "many", "cell"], dfl := [], body :=
    [.ifs (.cmp .ne (.idx (.var 0) (.int 0)) (.lst [])) [.asg (.n 2) (.idx (.idx (.var 0) (.int 0)) (.int 0)), 
    .sidx (.var 0) (.int 0) (.bin .add (.ite (.cmp .ge (.var 2) (.var 1)) (.lst [(.bin .fdiv (.var 2) (.var 1))]) (.lst [])) (.slc (.idx (.var 0) (.int 0)) [(.int 1)] [])), 
    .ret (.bin .mod (.blt .int [(.var 2)]) (.var 1))] [], .sidx (.var 0) (.int 1) (.bin .mod (.blt .int [(.bin .mul (.idx (.var 0) (.int 1)) (.int 48271))]) (.int 2147483647)), 
    .ret (.bin .mod (.blt .int [(.bin .fdiv (.bin .add (.bin .mul (.idx (.var 0) (.int 1)) (.int 69621)) (.int 7)) (.int 1013))]) (.var 1))] }
def f__law_pick : FnD := { ps := ["box", "some"], N := ["box", "some"], dfl := [], body :=
    [.ret (.idx (.var 1) (.call "_law_take" [(.av 0), (.blt .len [(.var 1)])] [] []))] }
def f__law_is : FnD := { ps := ["told", "due"], N := ["told", "due", "one", "other"], dfl := [], body :=
    [.ifs (.blt .isinstance [(.var 1), (.ty "tuple")]) [.ifs (.or (.not (.blt .isinstance [(.var 0), 
    (.ty "tuple")])) (.cmp .ne (.blt .len [(.var 0)]) (.blt .len [(.var 1)]))) [.ret (.bl false)] [], .ret (.cmp .eq (.comp (.int 1) (.t [(.n 2), (.n 3)]) (.izip [(.var 0), 
    (.var 1)]) [(.not (.call "_law_is" [(.av 2), (.av 3)] [] []))] [2, 3]) (.lst []))] [], 
    .ifs (.or (.cmp .is (.var 1) .non) (.or (.cmp .is (.var 1) (.bl true)) (.cmp .is (.var 1) (.bl false)))) [.ret (.ite (.cmp .is (.var 1) .non) (.cmp .is (.var 0) .non) (.ite (.cmp .is (.var 1) (.bl true)) (.cmp .is (.var 0) (.bl true)) (.cmp .is (.var 0) (.bl false))))] [], 
    .ifs (.blt .isinstance [(.var 1), (.ty "int")]) [.ret (.and (.blt .isinstance [(.var 0), (.ty "int")]) (.and (.not (.blt .isinstance [(.var 0), 
    (.ty "bool")])) (.cmp .eq (.var 0) (.var 1))))] [], .ret (.and (.blt .isinstance [(.var 1), (.ty "str")]) (.and (.blt .isinstance [(.var 0), 
    (.ty "str")]) (.cmp .eq (.var 0) (.var 1))))] }
def f__law_all : FnD := { ps := ["ask", "some", "due"], N := ["ask", "some", "due", "one"], dfl := [], body :=
    [.for (.n 3) (.ival (.var 1)) [.ifs (.not (.call "_law_is" [(.call "_law_error" [(.lam [] ["ask", "one"] (.cloc 0 [(.av 1)]) [0, 3] [])] [] []), 
    (.av 2)] [] [])) [.ret (.bl false)] []], .ret (.bl true)] }
def f_is_integer : FnD := { ps := ["value"], N := ["value"], dfl := [], body :=
    [.ret (.and (.blt .isinstance [(.var 0), (.ty "int")]) (.not (.blt .isinstance [(.var 0), (.ty "bool")])))] }
def f_is_paper_of : FnD := { ps := ["value", "many"], N := ["value", "many"], dfl := [], body :=
    [.ret (.and (.blt .isinstance [(.var 0), (.ty "tuple")]) (.cmp .eq (.blt .len [(.var 0)]) (.var 1)))] }
def f_fr : FnD := { ps := ["upper", "lower"], N := ["upper", "lower", "shared"], dfl := [], body :=
    [.asg (.n 2) (.blt .gcd [(.var 0), (.var 1)]), .ifs (.cmp .lt (.var 1) (.int 0)) [.asg (.n 2) (.neg (.var 2))] [], .ret (.tup [(.bin .fdiv (.var 0) (.var 2)), 
    (.bin .fdiv (.var 1) (.var 2))])] }
def f_added : FnD := { ps := ["one", "other"], N := ["one", "other"], dfl := [], body :=
    [.ret (.call "fr" [(.bin .add (.bin .mul (.idx (.var 0) (.int 0)) (.idx (.var 1) (.int 1))) (.bin .mul (.idx (.var 1) (.int 0)) (.idx (.var 0) (.int 1)))), 
    (.bin .mul (.idx (.var 0) (.int 1)) (.idx (.var 1) (.int 1)))] [] [])] }
def f_lessened : FnD := { ps := ["one", "other"], N := ["one", "other"], dfl := [], body :=
    [.ret (.call "fr" [(.bin .sub (.bin .mul (.idx (.var 0) (.int 0)) (.idx (.var 1) (.int 1))) (.bin .mul (.idx (.var 1) (.int 0)) (.idx (.var 0) (.int 1)))), 
    (.bin .mul (.idx (.var 0) (.int 1)) (.idx (.var 1) (.int 1)))] [] [])] }
def f_multiplied : FnD := { ps := ["one", "other"], N := ["one", "other"], dfl := [], body :=
    [.ret (.call "fr" [(.bin .mul (.idx (.var 0) (.int 0)) (.idx (.var 1) (.int 0))), (.bin .mul (.idx (.var 0) (.int 1)) (.idx (.var 1) (.int 1)))] [] [])] }
def f_divided : FnD := { ps := ["one", "other"], N := ["one", "other"], dfl := [], body :=
    [.ret (.call "fr" [(.bin .mul (.idx (.var 0) (.int 0)) (.idx (.var 1) (.int 1))), (.bin .mul (.idx (.var 0) (.int 1)) (.idx (.var 1) (.int 0)))] [] [])] }
def f_lesser : FnD := { ps := ["one", "other"], N := ["one", "other"], dfl := [], body :=
    [.ret (.cmp .lt (.bin .mul (.idx (.var 0) (.int 0)) (.idx (.var 1) (.int 1))) (.bin .mul (.idx (.var 1) (.int 0)) (.idx (.var 0) (.int 1))))] }
def f_is_frac : FnD := { ps := ["value"], N := ["value"], dfl := [], body :=
    [.ifs (.or (.not (.call "is_paper_of" [(.av 0), 
    (.int 2)] [] [])) (.or (.not (.call "is_integer" [(.idx (.var 0) (.int 0))] [] [])) (.not (.call "is_integer" [(.idx (.var 0) (.int 1))] [] [])))) [.ret (.bl false)] [], 
    .ret (.and (.cmp .gt (.idx (.var 0) (.int 1)) (.int 0)) (.cmp .eq (.blt .gcd [(.idx (.var 0) (.int 0)), (.idx (.var 0) (.int 1))]) (.int 1)))] }
def f_is_frac_below : FnD := { ps := ["value", "limit"], N := ["value", "limit"], dfl := [], body :=
    [.ret (.and (.call "is_frac" [(.av 0)] [] []) (.and (.cmp .lt (.blt .abs [(.idx (.var 0) (.int 0))]) (.var 1)) (.cmp .lt (.idx (.var 0) (.int 1)) (.var 1))))] }
abbrev c_LIGHT : D := .int ((10 ^ 40 : Nat) : Int)
def f_is_light : FnD := { ps := ["value"], N := ["value"], dfl := [], body :=
    [.ret (.call "is_frac_below" [(.av 0), (.gc "LIGHT" c_LIGHT)] [] [])] }
abbrev c_BEYOND : D := .int ((10 ^ 3000 : Nat) : Int)
def f_told_frac : FnD := { ps := ["one"], N := ["one"], dfl := [], body :=
    [.ifs (.or (.cmp .ge (.blt .abs [(.idx (.var 0) (.int 0))]) (.gc "BEYOND" c_BEYOND)) (.cmp .ge (.idx (.var 0) (.int 1)) (.gc "BEYOND" c_BEYOND))) [.rse "InvalidSize" ["word"] [(.str [102, 
    105, 103, 117, 114, 101, 115])]] [], .ret (.var 0)] }
def f__law_fr : FnD := { ps := ["upper", "lower"], N := ["upper", "lower", "one", "other", "turn"], dfl := [], body :=
    [.asg (.t [(.n 2), (.n 3)]) (.tup [(.blt .abs [(.var 0)]), (.blt .abs [(.var 1)])]), .for (.n 4) (.irng [(.int 40000)]) [.ifs (.cmp .eq (.var 3) (.int 0)) [.brk] [], 
    .asg (.t [(.n 2), (.n 3)]) (.tup [(.var 3), (.bin .mod (.blt .int [(.var 2)]) (.var 3))])], .asg (.n 2) (.ite (.cmp .gt (.var 1) (.int 0)) (.var 2) (.bin .sub (.int 0) (.var 2))), 
    .ret (.tup [(.bin .fdiv (.var 0) (.var 2)), (.bin .fdiv (.var 1) (.var 2))])] }
def f__law_add : FnD := { ps := ["one", "other"], N := ["one", "other"], dfl := [], body :=
    [.ret (.call "_law_fr" [(.bin .add (.bin .mul (.idx (.var 0) (.int 0)) (.idx (.var 1) (.int 1))) (.bin .mul (.idx (.var 1) (.int 0)) (.idx (.var 0) (.int 1)))), 
    (.bin .mul (.idx (.var 0) (.int 1)) (.idx (.var 1) (.int 1)))] [] [])] }
def f__law_sub : FnD := { ps := ["one", "other"], N := ["one", "other"], dfl := [], body :=
    [.ret (.call "_law_fr" [(.bin .sub (.bin .mul (.idx (.var 0) (.int 0)) (.idx (.var 1) (.int 1))) (.bin .mul (.idx (.var 1) (.int 0)) (.idx (.var 0) (.int 1)))), 
    (.bin .mul (.idx (.var 0) (.int 1)) (.idx (.var 1) (.int 1)))] [] [])] }
def f__law_mul : FnD := { ps := ["one", "other"], N := ["one", "other"], dfl := [], body :=
    [.ret (.call "_law_fr" [(.bin .mul (.idx (.var 0) (.int 0)) (.idx (.var 1) (.int 0))), (.bin .mul (.idx (.var 0) (.int 1)) (.idx (.var 1) (.int 1)))] [] [])] }
def f__law_div : FnD := { ps := ["one", "other"], N := ["one", "other"], dfl := [], body :=
    [.ret (.call "_law_fr" [(.bin .mul (.idx (.var 0) (.int 0)) (.idx (.var 1) (.int 1))), (.bin .mul (.idx (.var 0) (.int 1)) (.idx (.var 1) (.int 0)))] [] [])] }
def f__law_lt : FnD := { ps := ["one", "other"], N := ["one", "other"], dfl := [], body :=
    [.ret (.cmp .lt (.bin .mul (.idx (.var 0) (.int 0)) (.idx (.var 1) (.int 1))) (.bin .mul (.idx (.var 1) (.int 0)) (.idx (.var 0) (.int 1))))] }
def f__law_fr2 : FnD := { ps := ["upper", "lower"], N := ["upper", "lower", "one", "other"], dfl := [], body :=
    [.asg (.t [(.n 2), (.n 3)]) (.tup [(.blt .abs [(.var 0)]), (.blt .abs [(.var 1)])]), .whl (.cmp .ne (.var 3) (.int 0)) [.asg (.t [(.n 2), (.n 3)]) (.tup [(.var 3), 
    (.bin .sub (.var 2) (.bin .mul (.bin .fdiv (.var 2) (.var 3)) (.var 3)))])], .asg (.n 2) (.ite (.cmp .gt (.var 1) (.int 0)) (.var 2) (.bin .sub (.int 0) (.var 2))), 
    .ret (.tup [(.bin .fdiv (.var 0) (.var 2)), (.bin .fdiv (.var 1) (.var 2))])] }
def f_box (s0 s1 s2 : Int) : FnD := { ps := ["script"], N := ["script", "rest", "state", "k", "cell", "size"], dfl := [], body :=
    [.asg (.t [(.n 1), (.n 2)]) (.tup [(.lst []), (.int s0)]), .for (.t [(.n 3), 
    (.n 4)]) (.ienum (.slc (.var 0) [] [(.int 63)])) [.asg (.n 5) (.bin .add (.bin .mul (.blt .abs [(.var 4)]) (.int 2)) (.blt .int [(.cmp .lt (.var 4) (.int 0))])), 
    .ifs (.cmp .ge (.blt .abs [(.var 4)]) (.bin .pow (.int 10) (.int 18))) [.ex (.meth (.var 1) .append [(.blt .abs [(.var 4)])])] [], 
    .asg (.n 2) (.bin .add (.bin .mod (.blt .int [(.bin .add (.bin .add (.bin .mul (.var 2) (.int 48271)) (.bin .mul (.bin .mod (.blt .int [(.var 5)]) (.int 2147483629)) (.bin .add (.bin .mul (.int 2) (.var 3)) (.int s1)))) (.int s2))]) (.int 2147483629)) (.int 1))], 
    .ret (.lst [(.var 1), (.var 2)])] }
end PL
set_option maxHeartbeats 1000000
open PD
local macro_rules | `(tactic| walk_at "s") => `(tactic| first | assumption | exact sup_get | (refine get_new ?_ (by assumption); walk_at "s") | (refine get_off (by first | assumption | exact Ne.symm (by assumption)) ?_; walk_at "s"))
local macro_rules | `(tactic| walk_at "e") => `(tactic| simp only [startE, startL, endsOf, List.map_cons, List.map_nil, List.cons_append, List.nil_append, List.append_nil, List.length_cons, List.length_nil, List.replicate_succ, List.replicate_zero, List.drop_zero, List.drop_succ_cons, Nat.reduceAdd, Nat.reduceSub])
local macro_rules | `(tactic| walk_at "c") => `(tactic| simp only [datE, wipe, List.set_cons_succ, List.set_cons_zero, List.map_cons, List.map_nil])
local macro_rules | `(tactic| walk_at "w") => `(tactic| first
  | with_reducible refine' b_cons ?_
  | with_reducible refine' s_asg ?_ | with_reducible refine' s_if ?_ | with_reducible refine' s_ret ?_ | with_reducible refine' s_ex ?_ | with_reducible refine' s_sidx ?_
  | ((with_reducible refine' s_aug ?g ?_); (case g => exact rfl)) | with_reducible refine' s_rse ?_ | with_reducible refine' s_pass ?_ | with_reducible refine' s_retn ?_ | with_reducible refine' s_brk ?_ | with_reducible refine' s_cnt ?_
  | with_reducible refine' s_try ?_
  | ((with_reducible refine' t_n ?g ?_); (case g => exact rfl); dsimp only [List.set_cons_zero, List.set_cons_succ]) | with_reducible refine' t_t ?_ | ((with_reducible refine' t_l ?s ?_); (case s => walk_at "s")) | with_reducible refine' ts_cons ?_ | with_reducible refine' ts_nil ?_
  | ((with_reducible refine' e_var ?g ?_); (case g => exact rfl)) | with_reducible refine' e_int ?_ | with_reducible refine' e_str ?_ | with_reducible refine' e_bl ?_ | with_reducible refine' e_non ?_ | with_reducible refine' e_gc ?_ | with_reducible refine' e_ty ?_ | with_reducible refine' e_gfn ?_
  | with_reducible refine' e_bin ?_ | with_reducible refine' e_cmp ?_ | with_reducible refine' e_blt ?_ | with_reducible refine' e_idx ?_ | with_reducible refine' e_call0 ?_ | with_reducible refine' e_call ?_ | with_reducible refine' e_tup ?_ | with_reducible refine' e_lst ?_
  | with_reducible refine' e_and ?_ | with_reducible refine' e_or ?_ | with_reducible refine' e_not ?_ | with_reducible refine' e_ite ?_ | with_reducible refine' e_slc ?_ | with_reducible refine' e_meth ?_ | with_reducible refine' e_neg ?_
  | ((with_reducible refine' e_cloc ?g ?c ?_); (case g => exact rfl); (case c => exact trivial))
  | with_reducible refine' e_comp ?_ | with_reducible refine' i_val ?_ | with_reducible refine' i_enum ?_ | with_reducible refine' i_rng ?_ | with_reducible refine' i_zip ?_ | with_reducible refine' s_for ?_ | with_reducible refine' ts_one ?_ | with_reducible refine' ts_no ?_
  | with_reducible refine' l_cons ?_ | with_reducible refine' l_nil ?_
  | ((with_reducible refine' a_av ?g ?n ?_); (case g => exact rfl); (case n => exact trivial)) | with_reducible refine' a_lam ?_ | ((with_reducible refine' a_cons ?p ?_); (case p => exact rfl)) | with_reducible refine' a_nil ?_ | ((with_reducible refine' caps_ ?g ?_); (case g => exact rfl))
  | with_reducible refine' o_add ?_ | with_reducible refine' o_sub ?_ | ((with_reducible refine' o_mul ?h ?_); (case h => first | exact mul_r (by decide) | exact mul_l (by decide) | exact mul_l (fmod_small (by decide) (by decide)) | assumption))
  | ((with_reducible refine' o_mod ?h ?_); (case h => first | decide | omega)) | ((with_reducible refine' o_fdiv ?h ?h2 ?_); (case h => first | decide | omega); (case h2 => first | decide | omega | assumption)) | ((with_reducible refine' o_pow ?h ?h1 ?h2 ?_); (case h => decide); (case h1 => decide); (case h2 => decide))
  | ((with_reducible refine' o_adds ?h ?_); (case h => first | assumption | omega | (simp only [List.length_append, List.length_cons, List.length_nil]; omega))) | ((with_reducible refine' o_addt ?h ?_); (case h => first | assumption | decide | (simp only [List.length_append, List.length_cons, List.length_nil]; omega))) | with_reducible refine' g_add ?_ | with_reducible refine' g_sub ?_ | with_reducible refine' neg_int ?_
  | with_reducible refine' c_eq ?_ | with_reducible refine' c_ne ?_ | with_reducible refine' c_lt ?_ | with_reducible refine' c_le ?_ | with_reducible refine' c_gt ?_ | with_reducible refine' c_ge ?_
  | with_reducible refine' c_eqs ?_ | with_reducible refine' c_nes ?_ | with_reducible refine' c_lts ?_ | with_reducible refine' c_les ?_ | with_reducible refine' c_ges ?_ | with_reducible refine' c_isn ?_ | with_reducible refine' c_isb ?_ | with_reducible refine' c_isnn ?_ | with_reducible refine' c_ins ?_ | with_reducible refine' c_nins ?_
  | ((with_reducible refine' x_tup ?h ?g ?_); (case h => first | exact rfl | exact place_zero); (case g => exact rfl)) | ((with_reducible refine' x_lst ?s ?h ?g ?_); (case s => walk_at "s"); (case h => first | exact rfl | exact place_zero); (case g => exact rfl))
  | ((with_reducible refine' y_lst ?s ?h ?_); (case s => walk_at "s"); (case h => exact rfl))
  | with_reducible refine' z_tup ?_ | ((with_reducible refine' z_lst ?s ?_); (case s => walk_at "s")) | with_reducible refine' end_nil ?_ | with_reducible refine' end_int ?_
  | ((with_reducible refine' l_str ?l ?_); (case l => first | assumption | omega)) | ((with_reducible refine' z_str ?l ?_); (case l => first | assumption | omega)) | with_reducible refine' l_tup ?_ | ((with_reducible refine' l_lst ?s ?_); (case s => walk_at "s")) | with_reducible refine' u_abs ?_ | with_reducible refine' u_int ?_ | with_reducible refine' u_intb ?_ | with_reducible refine' u_gcd ?_ | ((with_reducible refine' u_isi_t ?h ?_); (case h => exact rfl)) | ((with_reducible refine' u_isi_f ?h ?_); (case h => exact rfl))
  | ((with_reducible refine' u_tupl ?s ?_); (case s => walk_at "s"))
  | ((with_reducible refine' r_app ?s ?_); (case s => walk_at "s")) | with_reducible refine' r_join ?_ | ((with_reducible refine' rng_1 ?h1 ?h2 ?_); (case h1 => first | decide | omega); (case h2 => first | decide | omega)) | ((with_reducible refine' rng_2 ?h1 ?h2 ?h3 ?h4 ?_); (case h1 => first | decide | omega); (case h2 => first | decide | omega); (case h3 => first | decide | omega); (case h4 => first | decide | omega)) | with_reducible refine' not_bl ?_ | with_reducible refine' if_t ?_ | with_reducible refine' if_f ?_ | with_reducible refine' if_not ?_ | ((with_reducible refine' if_kt ?h ?_); (case h => first | exact rfl | exact decide_eq_true (by assumption) | assumption)) | ((with_reducible refine' if_kf ?h ?_); (case h => first | exact rfl | exact decide_eq_false (by assumption) | assumption))
  | with_reducible refine' b_nil ?_)
local macro_rules | `(tactic| walk_at "v") => `(tactic| first
  | with_reducible refine' e_lstE ?_ | with_reducible refine' new_in ?_ | ((with_reducible refine' z_lstE ?s ?_); (case s => walk_at "s"))
  | walk_at "w")
/-! what the laws' helpers do: the source of draws -/
namespace PL
open PD
/-- off one address nothing is lost -/
def Fr (a : Nat) (S S' : Sto) : Prop := ∀ b o, b ≠ a → S b = some o → S' b = some o
theorem Fr.rfl' {a : Nat} {S : Sto} : Fr a S S := fun _ _ _ h => h
theorem Fr.trans {a : Nat} {S T U : Sto} (h : Fr a S T) (k : Fr a T U) : Fr a S U := fun b o n q => k b o n (h b o n q)
theorem Fr.of {a : Nat} {S T : Sto} (h : Sub S T) : Fr a S T := fun b o _ q => h b o q
theorem Fr.new {a p : Nat} {S T : Sto} {o : O} (h : Fr a S T) (n : T p = none) : Fr a S (sup T p o) := h.trans (.of (.new n))
theorem Fr.put {a : Nat} {S T : Sto} {o : O} (h : Fr a S T) : Fr a S (sup T a o) := fun b u n q => by rw [sup_off n]; exact h b u n q
/-- the source of draws stands at a; the addresses ps stand beside it -/
def Box (ps : List Nat) (S : Sto) (a : Nat) : Prop := ∃ (r : Nat) (xs : List Int) (st : Int), S a = some (.lst [.ref r, .int st]) ∧ S r = some (.lst (xs.map .int)) ∧ xs.length ≤ 63 ∧ r ∉ ps ∧ ∀ q ∈ ps, q ≠ a ∧ ∃ o, S q = some o
theorem box_ne {S : Sto} {a r : Nat} {st : Int} {xs : List Int} (h1 : S a = some (.lst [.ref r, .int st])) (h2 : S r = some (.lst (xs.map .int))) : r ≠ a := fun z => by
  rw [z, h1] at h2
  cases xs <;> simp at h2
theorem dats_ints : ∀ (n : Nat) (xs : List Int), dats n (xs.map .int) = true
  | _, [] => by unfold dats; rfl
  | n, x :: xs => by
    show (dat n (.int x) && dats n (xs.map .int)) = true
    rw [dats_ints n xs]
    cases n <;> rfl
theorem Box.mono {ps : List Nat} {S T : Sto} {a : Nat} (h : Box ps S a) (k : Sub S T) : Box ps T a := let ⟨r, xs, st, h1, h2, h3, h4, h5⟩ := h; ⟨r, xs, st, k _ _ h1, k _ _ h2, h3, h4, fun q hq => ⟨(h5 q hq).1, let ⟨o, ho⟩ := (h5 q hq).2; ⟨o, k _ _ ho⟩⟩⟩
theorem Box.ne {ps : List Nat} {S : Sto} {a q : Nat} (h : Box ps S a) (n : S q = none) : q ≠ a := fun z => by obtain ⟨_, _, _, h, _⟩ := h; rw [← z, n] at h; cases h
/-- what is new stands beside -/
theorem Box.add {ps : List Nat} {S T : Sto} {a q : Nat} {o : O} (h : Box ps S a) (n : S q = none) (k : Sub S T) (g : T q = some o) : Box (q :: ps) T a := by
  have hq := h.ne n
  obtain ⟨r, xs, st, h1, h2, h3, h4, h5⟩ := h
  refine ⟨r, xs, st, k _ _ h1, k _ _ h2, h3, fun z => ?_, fun x hx => ?_⟩
  · rcases List.mem_cons.mp z with z | z
    · rw [z, n] at h2; cases h2
    · exact h4 z
  · rcases List.mem_cons.mp hx with rfl | hx
    · exact ⟨hq, o, g⟩
    · exact ⟨(h5 x hx).1, let ⟨u, hu⟩ := (h5 x hx).2; ⟨u, k _ _ hu⟩⟩
/-- what stands beside may be written -/
theorem Box.put {ps : List Nat} {S : Sto} {a q : Nat} {o : O} (h : Box ps S a) (g : q ∈ ps) : Box ps (sup S q o) a := by
  obtain ⟨r, xs, st, h1, h2, h3, h4, h5⟩ := h
  have hqa := (h5 q g).1
  refine ⟨r, xs, st, get_off (Ne.symm hqa) h1, get_off (fun z => h4 (by rw [z]; exact g)) h2, h3, h4, fun x hx => ⟨(h5 x hx).1, ?_⟩⟩
  by_cases hx2 : x = q
  · subst hx2; exact ⟨o, sup_get⟩
  · obtain ⟨u, hu⟩ := (h5 x hx).2; exact ⟨u, get_off hx2 hu⟩
theorem Box.less {ps qs : List Nat} {S : Sto} {a : Nat} (h : Box ps S a) (k : ∀ q ∈ qs, q ∈ ps) : Box qs S a := let ⟨r, xs, st, h1, h2, h3, h4, h5⟩ := h; ⟨r, xs, st, h1, h2, h3, fun z => h4 (k _ z), fun q hq => h5 q (k q hq)⟩
theorem Fr.new' {a q : Nat} {S T : Sto} {o : O} (h : Fr a S T) (n : S q = none) : Fr a S (sup T q o) := fun b u nb g => by rw [sup_off (ne_free g n)]; exact h b u nb g
theorem free_of {S T : Sto} {q : Nat} (h : Sub S T) (n : T q = none) : S q = none := h.free n
theorem cut_tail {x : D} {xs : List D} : cutL (x :: xs) (some 1) none = xs := by
  unfold cutL cutAt
  simp
variable {fns : String → Option FnD} {C : Nat → CallT} (hC : Calls fns C)
include hC
theorem take_ok (hF : fns "_law_take" = some f__law_take) {m a : Nat} {many : Int} {S : Sto} {Q : QV} {E : QX} {ps : List Nat} (hb : Box ps S a) (h0 : 0 < many) (h9 : many.natAbs < 2 ^ 9000) (k : ∀ v S', 0 ≤ v → v < many → Box ps S' a → Fr a S S' → Q (.int v) S') :
    C (m + 1) (.d (.fn "_law_take")) [.d (.ref a), .d (.int many)] S Q E := by
  obtain ⟨r, xs, st, h1, h2, h3, h4, h5⟩ := hb
  have hra := box_ne h1 h2
  have hmod : ∀ i : Int, 0 ≤ i.fmod many ∧ i.fmod many < many := fun i => ⟨Int.fmod_nonneg_of_pos _ h0, Int.fmod_lt_of_pos _ h0⟩
  refine call_fn hC hF rfl ?_
  simp only [f__law_take]; walk_at "e"
  repeat walk_at "w"
  intro p hp
  have hpr := ne_free h2 hp
  refine c_nel (by walk_at "s") (by walk_at "s") (dats_ints _ _) rfl ?_
  refine if_not (if_b (fun he => ?_) fun he => ?_)
  · have hx : xs = [] := by
      cases xs with
      | nil => rfl
      | cons x xs => cases he
    subst hx
    repeat walk_at "w"
    refine wk (S := sup S a (.lst [.ref r, .int ((st * 48271).fmod 2147483647)])) ?_ (k _ _ (hmod _).1 (hmod _).2 ⟨r, [], _, sup_get, get_off hra h2, h3, h4, fun q hq => ⟨(h5 q hq).1, let ⟨o, ho⟩ := (h5 q hq).2; ⟨o, get_off (h5 q hq).1 ho⟩⟩⟩ (.put .rfl'))
    intro b o hb
    by_cases hba : b = a
    · subst hba; rw [sup_get] at hb ⊢; exact hb
    · rw [sup_off hba] at hb ⊢
      exact get_new hb hp
  · cases xs with
    | nil => cases he
    | cons x xs =>
    rw [List.map_cons] at h2
    have hlen : xs.length ≤ 62 := by simpa using h3
    have fin : ∀ (ys : List Int) (T : Sto), ys.length ≤ 63 → (∀ p, T p = none → S p = none) → Sub S T → ∀ q, T q = none → wkQ Q (.int (x.fmod many)) (sup (sup T q (.lst (ys.map .int))) a (.lst [.ref q, .int st])) := fun ys T hy hn hs q hq => by
      have hqa : a ≠ q := ne_free (hs _ _ h1) hq
      exact wk' (k _ _ (hmod _).1 (hmod _).2 ⟨q, ys, st, sup_get, get_off (Ne.symm hqa) sup_get, hy, fun z => (let ⟨o, ho⟩ := (h5 q z).2; by rw [hs _ _ ho] at hq; cases hq), fun x hx => ⟨(h5 x hx).1, let ⟨o, ho⟩ := (h5 x hx).2; ⟨o, get_off (h5 x hx).1 (get_new (hs _ _ ho) hq)⟩⟩⟩ (((Fr.of hs).new hq).put))
    repeat walk_at "w"
    refine if_dec (fun hg => ?_) fun hg => ?_
    · repeat walk_at "w"
      intro p1 hp1
      repeat walk_at "w"
      intro p2 hp2
      rw [cut_tail]
      refine o_addl (i := [.int (x.fdiv many)]) (j := xs.map .int) (by walk_at "s") sup_get (by simp [Line]; omega) ?_
      intro p3 hp3
      repeat walk_at "w"
      have n3 := fun q (h : sup (sup (sup S p (.lst [])) p1 (.lst [.int (x.fdiv many)])) p2 (.lst (xs.map .int)) q = none) => free_of (((Sub.new hp).add hp1).add hp2) h
      exact fin (x.fdiv many :: xs) _ (by simp; omega) n3 (((Sub.new hp).add hp1).add hp2) p3 hp3
    · repeat walk_at "w"
      intro p1 hp1
      repeat walk_at "w"
      intro p2 hp2
      rw [cut_tail]
      refine o_addl (i := []) (j := xs.map .int) (by walk_at "s") sup_get (by simp [Line]; omega) ?_
      intro p3 hp3
      repeat walk_at "w"
      have n3 := fun q (h : sup (sup (sup S p (.lst [])) p1 (.lst [])) p2 (.lst (xs.map .int)) q = none) => free_of (((Sub.new hp).add hp1).add hp2) h
      exact fin xs _ (by omega) n3 (((Sub.new hp).add hp1).add hp2) p3 hp3
theorem box_ok {s0 s1 s2 : Int} (h1 : s1.natAbs < 2 ^ 60) (hF : fns "_law_box" = some (f_box s0 s1 s2)) {m : Nat} {x : D} {ns : List Int} {S : Sto} {Q : QV} {E : QX} (hl : ns.length ≤ 63)
    (hz : ∀ (T : Sto) (Q : QV), Sub S T → (∀ p, T p = none → Q (.ref p) (sup T p (.lst (ns.map .int)))) → slcW T x none (some 63) Q) (k : ∀ a S', S a = none → Box [] S' a → Sub S S' → Q (.ref a) S') :
    C (m + 1) (.d (.fn "_law_box")) [.d x] S Q E := by
  refine call_fn hC hF rfl ?_
  simp only [f_box]; walk_at "e"
  repeat walk_at "w"
  intro r hr
  repeat walk_at "w"
  refine hz _ _ (.new hr) fun p hp => it_lst sup_get fun hlen => ?_
  refine for_items (fun i e T => ∃ (st : Int) (xs : List Int) (o3 o4 o5 : Option AV), e = [some (.d x), some (.d (.ref r)), some (.d (.int st)), o3, o4, o5] ∧ T r = some (.lst (xs.map .int)) ∧ xs.length ≤ i ∧ T p = some (.lst (ns.map .int)) ∧ Sub S T) ?_ ?_ ?_ ?_
  · exact ⟨s0, [], none, none, none, rfl, get_new sup_get hp, Nat.le_refl _, sup_get, (Sub.new hr).add hp⟩
  · rintro i e T ⟨st, xs, o3, o4, o5, _, _, _, hTp, _⟩
    show T p = sup (sup S r (.lst [])) p (.lst (ns.map .int)) p
    rw [hTp, sup_get]
  · rintro i d e T ⟨st, xs, o3, o4, o5, rfl, hTr, hxl, hTp, hST⟩ hd
    rw [enum_get, List.getElem?_map] at hd
    obtain ⟨c, hc, rfl⟩ : ∃ c, ns[i]? = some c ∧ d = .tup [.int ((0 : Nat) + (i : Int)), .int c] := by
      cases hn : ns[i]? with
      | none => rw [hn] at hd; cases hd
      | some c => rw [hn] at hd; exact ⟨c, rfl, (Option.some.inj hd).symm⟩
    have hi : i < 63 := Nat.lt_of_lt_of_le (List.getElem?_eq_some_iff.mp hc).1 hl
    have hrp : r ≠ p := ne_free (show sup S r (.lst []) r = _ from sup_get) hp
    repeat walk_at "w"
    refine if_dec (fun hg => ?_) fun hg => ?_
    · repeat walk_at "w"
      refine m_app hTr (by simp [Line]; omega) ?_
      repeat walk_at "w"
      refine ⟨_, xs ++ [if c < 0 then -c else c], _, _, _, rfl, ?_, by simp; omega, get_off (Ne.symm hrp) hTp, hST.put hr⟩
      rw [sup_get, List.map_append]
      rfl
    · repeat walk_at "w"
      exact ⟨_, xs, _, _, _, rfl, hTr, by omega, hTp, hST⟩
  · rintro e T ⟨st, xs, o3, o4, o5, rfl, hTr, hxl, hTp, hST⟩
    rw [enum_len, List.length_map] at hxl
    repeat walk_at "w"
    intro q hq
    exact wk' (k q _ (hST.free hq) ⟨r, xs, st, sup_get, get_new hTr hq, by omega, by simp, by simp⟩ (hST.add hq))
end PL
/-! what the laws' helpers do: a pick, what is told and what is due -/
namespace PL
open PD
mutual
/-- what is told is what is due: of the same kind, part by part -/
def isB : D → D → Bool
  | .tup xs, .tup ys => isBs xs ys
  | .non, .non => true
  | .bl a, .bl b => a == b
  | .int i, .int j => i == j
  | .str s, .str t => decide (s = t)
  | _, _ => false
def isBs : List D → List D → Bool
  | [], [] => true
  | x :: xs, y :: ys => isB x y && isBs xs ys
  | _, _ => false
end
mutual
theorem isB_eq : ∀ {x y : D}, isB x y = true → x = y
  | .tup xs, .tup ys, h => congrArg D.tup (isBs_eq h)
  | .non, .non, h => rfl
  | .bl a, .bl b, h => congrArg D.bl (beq_iff_eq.mp h)
  | .int a, .int b, h => congrArg D.int (beq_iff_eq.mp h)
  | .str a, .str b, h => congrArg D.str (of_decide_eq_true h)
theorem isBs_eq : ∀ {x y : List D}, isBs x y = true → x = y
  | [], [], h => rfl
  | x :: xs, y :: ys, h => by
    have h' : (isB x y && isBs xs ys) = true := h
    rw [Bool.and_eq_true] at h'
    rw [isB_eq h'.1, isBs_eq h'.2]
end
mutual
theorem isB_refl : ∀ {n : Nat} {x : D}, dat n x = true → isB x x = true
  | n, .non, h => rfl
  | n, .bl a, h => beq_self_eq_true a
  | n, .int a, h => beq_self_eq_true a
  | n, .str a, h => decide_eq_true rfl
  | n + 1, .tup xs, h => isBs_refl (n := n) h
  | 0, .tup xs, h => by cases h
  | n, .fls _, h => by cases n <;> cases h
  | n, .ref _, h => by cases n <;> cases h
  | n, .ty _, h => by cases n <;> cases h
  | n, .fn _, h => by cases n <;> cases h
theorem isBs_refl : ∀ {n : Nat} {x : List D}, dats n x = true → isBs x x = true
  | n, [], h => rfl
  | n, x :: xs, h => by
    have h' : (dat n x && dats n xs) = true := h
    rw [Bool.and_eq_true] at h'
    show (isB x x && isBs xs xs) = true
    rw [isB_refl h'.1, isBs_refl h'.2]
    rfl
end
theorem isBs_len : ∀ {x y : List D}, isBs x y = true → x.length = y.length := fun h => by rw [isBs_eq h]
theorem dats_get : ∀ {n : Nat} {xs : List D} {i : Nat} {x : D}, dats n xs = true → xs[i]? = some x → dat n x = true
  | n, x :: xs, 0, y, h, g => by
    have h' : (dat n x && dats n xs) = true := h
    rw [Bool.and_eq_true] at h'
    simp at g
    rw [← g]
    exact h'.1
  | n, x :: xs, i + 1, y, h, g => by
    have h' : (dat n x && dats n xs) = true := h
    rw [Bool.and_eq_true] at h'
    exact dats_get h'.2 (by simpa using g)
  | n, [], i, y, h, g => by simp at g
/-- so far -/
theorem isBs_all : ∀ {xs ys : List D}, xs.length = ys.length → (isBs xs ys = true ↔ ∀ (i : Nat) (x y : D), xs[i]? = some x → ys[i]? = some y → isB x y = true)
  | [], [], _ => ⟨fun _ i x y h => by simp at h, fun _ => rfl⟩
  | [], _ :: _, h => by cases h
  | _ :: _, [], h => by cases h
  | x :: xs, y :: ys, h => by
    have ih := isBs_all (xs := xs) (ys := ys) (by simpa using h)
    have e : isBs (x :: xs) (y :: ys) = (isB x y && isBs xs ys) := rfl
    rw [e, Bool.and_eq_true, ih]
    constructor
    · rintro ⟨h1, h2⟩ i a b ha hb
      cases i with
      | zero => simp at ha hb; rw [← ha, ← hb]; exact h1
      | succ i => exact h2 i a b (by simpa using ha) (by simpa using hb)
    · intro h
      exact ⟨h 0 x y rfl rfl, fun i a b ha hb => h (i + 1) a b (by simpa using ha) (by simpa using hb)⟩
theorem dat_cases {n : Nat} {x : D} (h : dat n x = true) : x = .non ∨ (∃ b, x = .bl b) ∨ (∃ i, x = .int i) ∨ (∃ s, x = .str s) ∨ ∃ xs m, n = m + 1 ∧ x = .tup xs ∧ dats m xs = true := by
  cases x with
  | non => exact .inl rfl
  | bl b => exact .inr (.inl ⟨b, rfl⟩)
  | int i => exact .inr (.inr (.inl ⟨i, rfl⟩))
  | str s => exact .inr (.inr (.inr (.inl ⟨s, rfl⟩)))
  | tup xs => cases n with
    | zero => cases h
    | succ m => exact .inr (.inr (.inr (.inr ⟨xs, m, rfl, rfl, h⟩)))
  | fls _ => cases n <;> cases h
  | ref _ => cases n <;> cases h
  | ty _ => cases n <;> cases h
  | fn _ => cases n <;> cases h
theorem dats_app {n : Nat} : ∀ {xs ys : List D}, dats n (xs ++ ys) = (dats n xs && dats n ys)
  | [], ys => by cases n <;> rfl
  | x :: xs, ys => by
    show (dat n x && dats n (xs ++ ys)) = ((dat n x && dats n xs) && dats n ys)
    rw [dats_app, Bool.and_assoc]
theorem eqds_nil {xs : List D} : eqds xs [] = decide (xs = []) := by cases xs <;> rfl
variable {fns : String → Option FnD} {C : Nat → CallT} (hC : Calls fns C)
include hC
theorem pick_ok (hT : fns "_law_take" = some f__law_take) (hF : fns "_law_pick" = some f__law_pick) {m a p : Nat} {xs : List D} {S : Sto} {Q : QV} {E : QX} {ps : List Nat} (hb : Box ps S a) (hp : S p = some (.lst xs)) (hne : p ≠ a) (h0 : xs ≠ []) (k : ∀ d S', d ∈ xs → Box ps S' a → Fr a S S' → Q d S') :
    C (m + 2) (.d (.fn "_law_pick")) [.d (.ref a), .d (.ref p)] S Q E := by
  refine call_fn hC hF rfl ?_
  simp only [f__law_pick]; walk_at "e"
  repeat walk_at "w"
  intro hlen
  have h0' : 0 < xs.length := List.length_pos_iff.mpr h0
  have h9 : xs.length < 2 ^ 9000 := Nat.lt_of_le_of_lt hlen (by decide)
  repeat walk_at "w"
  refine take_ok hC hT hb (by omega) (by simpa using h9) fun v S' v0 v1 hb' hfr => ?_
  have hvl : v.toNat < xs.length := by omega
  refine x_lst (hfr _ _ hne hp) (place_int v0 v1) (List.getElem?_eq_getElem hvl) ?_
  exact wk' (k _ S' (List.getElem_mem hvl) hb' hfr)
theorem is_flat (hF : fns "_law_is" = some f__law_is) {n m : Nat} {x y : D} {S : Sto} {Q : QV} {E : QX} (hx : dat n x = true) (hy : dat n y = true) (hn : ∀ ys, y ≠ .tup ys) (hq : Q (.bl (isB x y)) S) : C (m + 1) (.d (.fn "_law_is")) [.d x, .d y] S Q E := by
  refine call_fn hC hF rfl ?_
  simp only [f__law_is]; walk_at "e"
  rcases dat_cases hy with rfl | ⟨b, rfl⟩ | ⟨i, rfl⟩ | ⟨s, rfl⟩ | ⟨ys, k, rfl, rfl, hys⟩
  · rcases dat_cases hx with rfl | ⟨b', rfl⟩ | ⟨i', rfl⟩ | ⟨s', rfl⟩ | ⟨xs', k', _, rfl, _⟩ <;> (repeat walk_at "w") <;> exact wk' hq
  · cases b <;> (rcases dat_cases hx with rfl | ⟨b', rfl⟩ | ⟨i', rfl⟩ | ⟨s', rfl⟩ | ⟨xs', k', _, rfl, _⟩ <;> (repeat walk_at "w") <;> exact wk' hq)
  · rcases dat_cases hx with rfl | ⟨b', rfl⟩ | ⟨i', rfl⟩ | ⟨s', rfl⟩ | ⟨xs', k', _, rfl, _⟩ <;> (repeat walk_at "w") <;> exact wk' hq
  · rcases dat_cases hx with rfl | ⟨b', rfl⟩ | ⟨i', rfl⟩ | ⟨s', rfl⟩ | ⟨xs', k', _, rfl, _⟩ <;> (repeat walk_at "w") <;> exact wk' hq
  · exact absurd rfl (hn _)
theorem is_ok (hF : fns "_law_is" = some f__law_is) : ∀ (n : Nat) {m : Nat} {x y : D} {S : Sto} {Q : QV} {E : QX}, dat n x = true → dat n y = true → Q (.bl (isB x y)) S → C (m + n + 1) (.d (.fn "_law_is")) [.d x, .d y] S Q E := by
  intro n
  induction n with
  | zero => exact fun {m x y S Q E} hx hy hq => is_flat hC hF hx hy (fun ys z => by rw [z] at hy; cases hy) hq
  | succ n ih =>
    intro m x y S Q E hx hy hq
    by_cases hn : ∀ ys, y ≠ .tup ys
    · exact is_flat hC hF hx hy hn hq
    have hn' : ∃ ys, y = .tup ys := Classical.byContradiction fun z => hn fun ys e => z ⟨ys, e⟩
    obtain ⟨ys, rfl⟩ := hn'
    have hys : dats n ys = true := hy
    refine call_fn hC hF rfl ?_
    simp only [f__law_is]; walk_at "e"
    rcases dat_cases hx with rfl | ⟨b', rfl⟩ | ⟨i', rfl⟩ | ⟨s', rfl⟩ | ⟨xs, k', hk, rfl, hxs⟩
    · repeat walk_at "w"
      exact wk' hq
    · repeat walk_at "w"
      exact wk' hq
    · repeat walk_at "w"
      exact wk' hq
    · repeat walk_at "w"
      exact wk' hq
    · cases hk
      repeat walk_at "w"
      intro l1
      repeat walk_at "w"
      intro l2
      repeat walk_at "w"
      refine if_dec (fun he => ?_) fun he => ?_
      · have he' : xs.length = ys.length := by omega
        repeat walk_at "w"
        refine zip_two rfl rfl ?_
        walk_at "c"
        have hzl : ((xs.zip ys).map fun p => D.tup [p.1, p.2]).length = xs.length := by simp; omega
        refine comp_by (fun p i acc T => T p = some (.lst acc) ∧ (acc = [] ↔ ∀ j x y, j < i → xs[j]? = some x → ys[j]? = some y → isB x y = true) ∧ Sub S T ∧ dats 40 acc = true) (by omega) ?_ ?_ ?_ ?_
        · exact fun p hp => ⟨sup_get, ⟨fun _ j x y hj => by omega, fun _ => rfl⟩, .new hp, rfl⟩
        · exact fun p i acc T hp w => ⟨w.1, stay_tt⟩
        · intro p i acc T d hp ⟨w1, w2, w3, w4⟩ hd
          obtain ⟨x, y, hx', hy', rfl⟩ := zip_get hd
          repeat walk_at "w"
          refine ih (dats_get hxs hx') (dats_get hys hy') ?_
          repeat walk_at "w"
          refine if_b (fun hk => ?_) fun hk => ?_
          · refine ⟨w1, ⟨fun ha j a b hj ga gb => ?_, fun h => w2.mpr fun j a b hj => h j a b (by omega)⟩, w3, w4⟩
            by_cases hji : j = i
            · subst hji
              rw [hx'] at ga
              rw [hy'] at gb
              cases ga
              cases gb
              exact hk
            · exact w2.mp ha j a b (by omega) ga gb
          · repeat walk_at "w"
            refine ⟨w1, sup_get, ⟨fun h => absurd h (by simp), fun h => ?_⟩, w3.put hp, by rw [dats_app, w4]; rfl⟩
            have := h i x y (by omega) hx' hy'
            rw [hk] at this
            cases this
        · intro p acc T hp ⟨w1, w2, w3, w4⟩
          repeat walk_at "w"
          intro q hq'
          refine c_eql (get_new w1 hq') sup_get w4 rfl ?_
          have e : eqds acc [] = isBs xs ys := by
            rw [Bool.eq_iff_iff, eqds_nil, decide_eq_true_iff, w2, isBs_all he', hzl]
            exact ⟨fun h j a b ga gb => h j a b (List.getElem?_eq_some_iff.mp ga).1 ga gb, fun h j a b _ ga gb => h j a b ga gb⟩
          rw [e]
          exact wk (w3.add hq') hq
      · repeat walk_at "w"
        have e : isBs xs ys = false := by
          cases h : isBs xs ys with
          | false => rfl
          | true => exact absurd (isBs_len h) (by omega)
        exact wk' (by rw [← e]; exact hq)
theorem is_same (hF : fns "_law_is" = some f__law_is) (n : Nat) {m : Nat} {x : D} {S : Sto} {Q : QV} {E : QX} (hx : dat n x = true) (hq : Q (.bl true) S) : C (m + n + 1) (.d (.fn "_law_is")) [.d x, .d x] S Q E :=
  is_ok hC hF n hx hx (by rw [isB_refl hx]; exact hq)
end PL
/-! what the laws' helpers do: refused, all of them -/
namespace PL
open PD
/-- the tuple ("told",) -/
abbrev tTold : D := .tup [.str [116, 111, 108, 100]]
/-- a call is refused, as errT tells -/
def Refd (errT : String → List (String × D) → Option D) (C : CallT) (a : AV) (as : List AV) (S : Sto) (due : D) : Prop := ∀ (S' : Sto) (Q : QV) (E : QX), Sub S S' → (∀ x fs, errT x fs = some due → E x fs S') → C a as S' Q E
/-- what a law's _law_error does -/
def ErrF (errT : String → List (String × D) → Option D) (C : Nat → CallT) : Prop := ∀ {m : Nat} {a : AV} {S : Sto} {Q : QV} {E : QX}, canCall a → notX a → C m a [] S (fun _ S' => Q tTold S') (fun x fs S' => ∃ t, errT x fs = some t ∧ Q t S') → C (m + 1) (.d (.fn "_law_error")) [a] S Q E
/-- what is to be shown of a law -/
def LawP (fns : String → Option FnD) (k : Nat) : Prop := ∀ (C : Nat → CallT), Calls fns C → ∀ ns : List Int, ns.length ≤ 63 → (∀ z ∈ ns, PySem.Builtin.Int.intBits z ≤ 1048576) → ∀ (x : D) (S : Sto),
  (x = .fls (ns.map .int) ∧ S = fun _ => none) ∨ (∃ a, x = .ref a ∧ S = sup (fun _ => none) a (.lst (ns.map .int))) → C k (.d (.fn "law")) [.d x] S (fun d _ => d = .bl true) noX
theorem script_cut {ns : List Int} {x : D} {S : Sto} {b : Int} (hb : 0 ≤ b) (hl : ns.length ≤ b.toNat) (hx : (x = .fls (ns.map .int) ∧ S = fun _ => none) ∨ (∃ a, x = .ref a ∧ S = sup (fun _ => none) a (.lst (ns.map .int)))) :
    ∀ (T : Sto) (Q : QV), Sub S T → (∀ p, T p = none → Q (.ref p) (sup T p (.lst (ns.map .int)))) → slcW T x none (some b) Q := by
  have hc : cutL (ns.map D.int) none (some b) = ns.map .int := by
    unfold cutL cutAt
    simp only [List.drop_zero, Nat.sub_zero]
    rw [if_neg (by omega)]
    exact List.take_of_length_le (by rw [List.length_map]; omega)
  rcases hx with ⟨rfl, rfl⟩ | ⟨a, rfl, rfl⟩
  · intro T Q hs k
    show ∀ p, T p = none → Q (.ref p) (sup T p (.lst (cutL (ns.map .int) none (some b))))
    rw [hc]
    exact k
  · intro T Q hs k
    refine z_lst (hs _ _ sup_get) ?_
    rw [hc]
    exact k
theorem cut_to {α : Type} {t : List α} {v : Int} (h : 0 ≤ v) (h2 : v ≤ t.length) : cutL t none (some v) = t.take v.toNat := by
  unfold cutL cutAt
  simp only [List.drop_zero, Nat.sub_zero]
  rw [if_neg (by omega), Nat.min_eq_left (by omega)]
theorem cut_from {α : Type} {t : List α} {v : Int} (h : 0 ≤ v) (h2 : v ≤ t.length) : cutL t (some v) none = t.drop v.toNat := by
  unfold cutL cutAt
  simp only []
  rw [if_neg (by omega), Nat.min_eq_left (by omega)]
  exact List.take_of_length_le (by rw [List.length_drop]; omega)
variable {fns : String → Option FnD} {C : Nat → CallT} (hC : Calls fns C)
include hC
theorem all_ok (hI : fns "_law_is" = some f__law_is) (hF : fns "_law_all" = some f__law_all) {errT : String → List (String × D) → Option D} (hE : ErrF errT C) {m p : Nat} {a : AV} {xs : List D} {due : D} {S : Sto} {Q : QV} {E : QX} (ha : canCall a) (hx : notX a) (hcp : (∃ x, a = .d x) ∨ ∃ ps fr b cs ds, a = .clo ps fr b cs ds)
    (hp : S p = some (.lst xs)) (hd : dat 3 due = true) (h : ∀ d, d ∈ xs → Refd errT (C (m + 2)) a [.d d] S due) (k : Q (.bl true) S) : C (m + 5) (.d (.fn "_law_all")) [a, .d (.ref p), .d due] S Q E := by
  refine call_fn hC hF rfl ?_
  simp only [f__law_all]; walk_at "e"
  repeat walk_at "w"
  refine it_lst hp fun hl => ?_
  refine for_items (fun i e T => ∃ o, e = [some a, some (.d (.ref p)), some (.d due), o] ∧ Sub S T) ?_ ?_ ?_ ?_
  · exact ⟨none, rfl, .rfl'⟩
  · rintro i e T ⟨o, _, hs⟩
    show T p = S p
    rw [hp, hs _ _ hp]
  · rintro i d e T ⟨o, rfl, hs⟩ hd'
    repeat walk_at "w"
    refine caps_ (cs := [a, .d d]) (by rcases hcp with ⟨x, rfl⟩ | ⟨ps, fr, b, cs, ds, rfl⟩ <;> rfl) ?_
    repeat walk_at "w"
    refine hE trivial trivial ?_
    refine call_lam hC (Nat.le_refl _) (Nat.le_refl _) ?_
    walk_at "e"
    refine e_cloc rfl ha ?_
    repeat walk_at "w"
    refine h d (List.mem_of_getElem? hd') T _ _ hs fun x fs ht => ?_
    refine ⟨T, .rfl', due, ht, ?_⟩
    repeat walk_at "w"
    refine is_ok hC hI 3 hd hd ?_
    rw [isB_refl hd]
    repeat walk_at "w"
    exact ⟨_, rfl, hs⟩
  · rintro e T ⟨o, rfl, hs⟩
    repeat walk_at "w"
    exact wk hs k
end PL
/-! fractions: as the rational numbers of Lean -/
namespace PL
open PD
/-- a fraction in lowest terms -/
abbrev frD (q : Rat) : D := .tup [.int q.num, .int (q.den : Int)]
/-- of few figures -/
def Sz (k : Nat) (q : Rat) : Prop := q.num.natAbs < 2 ^ k ∧ q.den < 2 ^ k
theorem Sz.mono {j k : Nat} {q : Rat} (h : Sz j q) (l : j ≤ k) : Sz k q := ⟨Nat.lt_of_lt_of_le h.1 (Nat.pow_le_pow_right (by decide) l), Nat.lt_of_lt_of_le h.2 (Nat.pow_le_pow_right (by decide) l)⟩
theorem den_pos (q : Rat) : 0 < q.den := Nat.pos_of_ne_zero q.den_nz
theorem gcd_pos {u l : Int} (hl : l ≠ 0) : 0 < Int.gcd u l := Int.gcd_pos_of_ne_zero_right u hl
theorem fr_num {u l : Int} (hl : l ≠ 0) : u.fdiv (if l < 0 then -(Int.gcd u l : Int) else (Int.gcd u l : Int)) = (Rat.divInt u l).num := by
  have hg := gcd_pos (u := u) hl
  obtain ⟨c, hc⟩ := Int.gcd_dvd_left u l
  rw [Rat.num_divInt, Int.gcd_comm l u]
  generalize hG : (Int.gcd u l : Int) = G at *
  have hG0 : 0 < G := by omega
  by_cases h : l < 0
  · rw [if_pos h, Int.sign_eq_neg_one_of_neg h, hc, Int.fdiv_eq_ediv_of_dvd ⟨-c, by rw [Int.neg_mul_neg]⟩, Int.ediv_neg, Int.mul_ediv_cancel_left _ (by omega), Int.neg_mul, Int.one_mul, ← Int.mul_neg, Int.mul_ediv_cancel_left _ (by omega)]
  · rw [if_neg h, Int.sign_eq_one_of_pos (by omega), hc, Int.fdiv_eq_ediv_of_dvd ⟨c, rfl⟩, Int.one_mul]
theorem fr_den {u l : Int} (hl : l ≠ 0) : l.fdiv (if l < 0 then -(Int.gcd u l : Int) else (Int.gcd u l : Int)) = ((Rat.divInt u l).den : Int) := by
  have hg := gcd_pos (u := u) hl
  obtain ⟨c, hc⟩ := Int.gcd_dvd_right u l
  rw [Rat.den_divInt, if_neg hl, Int.gcd_comm l u]
  have hd : Int.gcd u l ∣ l.natAbs := by
    have := Int.natAbs_dvd_natAbs.mpr (Int.gcd_dvd_right u l)
    simpa using this
  rw [Int.natCast_ediv]
  generalize hG : (Int.gcd u l : Int) = G at *
  have hG0 : 0 < G := by omega
  by_cases h : l < 0
  · rw [if_pos h, show ((l.natAbs : Nat) : Int) = -l by omega, hc, Int.fdiv_eq_ediv_of_dvd ⟨-c, by rw [Int.neg_mul_neg]⟩, Int.ediv_neg, Int.mul_ediv_cancel_left _ (by omega), ← Int.mul_neg, Int.mul_ediv_cancel_left _ (by omega)]
  · rw [if_neg h, show ((l.natAbs : Nat) : Int) = l by omega, hc, Int.fdiv_eq_ediv_of_dvd ⟨c, rfl⟩]
theorem add_frD (p q : Rat) : Rat.divInt (p.num * (q.den : Int) + q.num * (p.den : Int)) ((p.den : Int) * (q.den : Int)) = p + q := by
  rw [Rat.add_def', ← Rat.divInt_ofNat, Int.natCast_mul]
theorem sub_frD (p q : Rat) : Rat.divInt (p.num * (q.den : Int) - q.num * (p.den : Int)) ((p.den : Int) * (q.den : Int)) = p - q := by
  rw [Rat.sub_def', ← Rat.divInt_ofNat, Int.natCast_mul]
theorem mul_frD (p q : Rat) : Rat.divInt (p.num * q.num) ((p.den : Int) * (q.den : Int)) = p * q := by
  rw [Rat.mul_def', ← Rat.divInt_ofNat, Int.natCast_mul]
theorem div_frD (p q : Rat) : Rat.divInt (p.num * (q.den : Int)) ((p.den : Int) * q.num) = p / q := by
  rw [Rat.div_def, Rat.inv_def, ← Rat.divInt_mul_divInt, Rat.num_divInt_den]
theorem lt_frD (p q : Rat) : decide (p.num * (q.den : Int) < q.num * (p.den : Int)) = decide (p < q) := by
  rw [Bool.eq_iff_iff, decide_eq_true_iff, decide_eq_true_iff]
  exact (Rat.lt_iff p q).symm
theorem frD_inj {p q : Rat} (h : frD p = frD q) : p = q := by
  injection h with h
  injection h with h1 h2
  injection h1 with h1
  injection h2 with h2 _
  injection h2 with h2
  exact Rat.ext h1 (by omega)
theorem divInt_sz {u l : Int} {k : Nat} (hl : l ≠ 0) (h1 : u.natAbs < 2 ^ k) (h2 : l.natAbs < 2 ^ k) : Sz k (Rat.divInt u l) := by
  have hg := gcd_pos (u := u) hl
  refine ⟨?_, ?_⟩
  · rw [← fr_num hl]
    refine Nat.lt_of_le_of_lt ?_ h1
    obtain ⟨c, hc⟩ := Int.gcd_dvd_left u l
    have hc' : u.natAbs = Int.gcd u l * c.natAbs := by
      have := congrArg Int.natAbs hc
      rw [Int.natAbs_mul, Int.natAbs_natCast] at this
      exact this
    have : (u.fdiv (if l < 0 then -(Int.gcd u l : Int) else (Int.gcd u l : Int))).natAbs = c.natAbs := by
      rw [Int.fdiv_eq_ediv_of_dvd (by
        split
        · exact Int.neg_dvd.mpr (Int.gcd_dvd_left u l)
        · exact Int.gcd_dvd_left u l)]
      generalize hG : (Int.gcd u l : Int) = G at *
      have hG0 : 0 < G := by omega
      split
      · rw [Int.ediv_neg, hc, Int.mul_ediv_cancel_left _ (by omega), Int.natAbs_neg]
      · rw [hc, Int.mul_ediv_cancel_left _ (by omega)]
    rw [this, hc']
    exact Nat.le_mul_of_pos_left _ hg
  · rw [Rat.den_divInt, if_neg hl]
    exact Nat.lt_of_le_of_lt (Nat.div_le_self _ _) h2
theorem sz_add {j k : Nat} {p q : Rat} (hp : Sz j p) (hq : Sz k q) : (p.num * (q.den : Int) + q.num * (p.den : Int)).natAbs < 2 ^ (j + k + 1) ∧ (p.num * (q.den : Int) - q.num * (p.den : Int)).natAbs < 2 ^ (j + k + 1) := by
  have a : (p.num * (q.den : Int)).natAbs < 2 ^ (j + k) := by
    rw [Int.natAbs_mul, Int.natAbs_natCast, Nat.pow_add]
    exact Nat.mul_lt_mul'' hp.1 hq.2
  have b : (q.num * (p.den : Int)).natAbs < 2 ^ (j + k) := by
    rw [Int.natAbs_mul, Int.natAbs_natCast, Nat.pow_add, Nat.mul_comm]
    exact Nat.mul_lt_mul'' hp.2 hq.1
  rw [Nat.pow_succ]
  omega
theorem sz_den {j k : Nat} {p q : Rat} (hp : Sz j p) (hq : Sz k q) : ((p.den : Int) * (q.den : Int)).natAbs < 2 ^ (j + k) ∧ (p.num * q.num).natAbs < 2 ^ (j + k) ∧ (p.num * (q.den : Int)).natAbs < 2 ^ (j + k) ∧ ((p.den : Int) * q.num).natAbs < 2 ^ (j + k) := by
  refine ⟨?_, ?_, ?_, ?_⟩ <;> (rw [Int.natAbs_mul, Nat.pow_add]; try simp only [Int.natAbs_natCast])
  · exact Nat.mul_lt_mul'' hp.2 hq.2
  · exact Nat.mul_lt_mul'' hp.1 hq.1
  · exact Nat.mul_lt_mul'' hp.1 hq.2
  · exact Nat.mul_lt_mul'' hp.2 hq.1
theorem den_ne (p q : Rat) : (p.den : Int) * (q.den : Int) ≠ 0 := Int.mul_ne_zero (by have := den_pos p; omega) (by have := den_pos q; omega)
theorem Sz.add {j k : Nat} {p q : Rat} (hp : Sz j p) (hq : Sz k q) : Sz (j + k + 1) (p + q) := by
  rw [← add_frD]
  exact divInt_sz (den_ne p q) (sz_add hp hq).1 (Nat.lt_of_lt_of_le (sz_den hp hq).1 (Nat.pow_le_pow_right (by decide) (by omega)))
theorem Sz.sub {j k : Nat} {p q : Rat} (hp : Sz j p) (hq : Sz k q) : Sz (j + k + 1) (p - q) := by
  rw [← sub_frD]
  exact divInt_sz (den_ne p q) (sz_add hp hq).2 (Nat.lt_of_lt_of_le (sz_den hp hq).1 (Nat.pow_le_pow_right (by decide) (by omega)))
theorem Sz.mul {j k : Nat} {p q : Rat} (hp : Sz j p) (hq : Sz k q) : Sz (j + k) (p * q) := by
  rw [← mul_frD]
  exact divInt_sz (den_ne p q) (sz_den hp hq).2.1 (sz_den hp hq).1
theorem num_ne {q : Rat} (h : q ≠ 0) : q.num ≠ 0 := fun z => h (Rat.num_eq_zero.mp z)
theorem dn_ne {p q : Rat} (h : q ≠ 0) : (p.den : Int) * q.num ≠ 0 := Int.mul_ne_zero (by have := den_pos p; omega) (num_ne h)
theorem Sz.div {j k : Nat} {p q : Rat} (hp : Sz j p) (hq : Sz k q) (h : q ≠ 0) : Sz (j + k) (p / q) := by
  rw [← div_frD]
  exact divInt_sz (dn_ne h) (sz_den hp hq).2.2.1 (sz_den hp hq).2.2.2
theorem mul_ok {i j : Int} {m n : Nat} (h1 : i.natAbs < 2 ^ m) (h2 : j.natAbs < 2 ^ n) (h : m + n ≤ 20000) : mulOk i j := mul_b m n h1 h2 (by omega)
theorem lt9000 {a k : Nat} (h : a < 2 ^ k) (l : k ≤ 9000) : a < 2 ^ 9000 := Nat.lt_of_lt_of_le h (Nat.pow_le_pow_right (by decide) l)
variable {fns : String → Option FnD} {C : Nat → CallT} (hC : Calls fns C)
include hC
theorem fr_ok (hF : fns "fr" = some f_fr) {m : Nat} {u l : Int} {S : Sto} {Q : QV} {E : QX} (hl : l ≠ 0) (h9 : l.natAbs < 2 ^ 9000) (k : Q (frD (Rat.divInt u l)) S) : C (m + 1) (.d (.fn "fr")) [.d (.int u), .d (.int l)] S Q E := by
  have hg := gcd_pos (u := u) hl
  have hgl : Int.gcd u l ≤ l.natAbs := Nat.le_of_dvd (by omega) (by simpa using Int.natAbs_dvd_natAbs.mpr (Int.gcd_dvd_right u l))
  have hg9 : Int.gcd u l < 2 ^ 9000 := Nat.lt_of_le_of_lt hgl h9
  have n1 := fr_num (u := u) hl
  have n2 := fr_den (u := u) hl
  refine call_fn hC hF rfl ?_
  simp only [f_fr]; walk_at "e"
  repeat walk_at "w"
  refine if_dec (fun h => ?_) fun h => ?_
  · rw [if_pos h] at n1 n2
    have h0 : (-(Int.gcd u l : Int)) ≠ 0 := by omega
    have h1 : (-(Int.gcd u l : Int)).natAbs < 2 ^ 9000 := by rw [Int.natAbs_neg, Int.natAbs_natCast]; exact hg9
    repeat walk_at "w"
    rw [n1, n2]
    exact wk' k
  · rw [if_neg h] at n1 n2
    have h0 : (Int.gcd u l : Int) ≠ 0 := by omega
    have h1 : (Int.gcd u l : Int).natAbs < 2 ^ 9000 := by rw [Int.natAbs_natCast]; exact hg9
    repeat walk_at "w"
    rw [n1, n2]
    exact wk' k
variable {j k m : Nat} {p q : Rat} {S : Sto} {Q : QV} {E : QX}
theorem added_ok (hR : fns "fr" = some f_fr) (hF : fns "added" = some f_added) (hp : Sz j p) (hq : Sz k q) (hjk : j + k ≤ 9000) (h : Q (frD (p + q)) S) : C (m + 2) (.d (.fn "added")) [.d (frD p), .d (frD q)] S Q E := by
  have m1 := mul_ok (i := p.num) (j := (q.den : Int)) hp.1 (by simpa using hq.2) (by omega)
  have m2 := mul_ok (i := q.num) (j := (p.den : Int)) hq.1 (by simpa using hp.2) (by omega)
  have m3 := mul_ok (i := (p.den : Int)) (j := (q.den : Int)) (by simpa using hp.2) (by simpa using hq.2) (by omega)
  refine call_fn hC hF rfl ?_
  simp only [f_added]; walk_at "e"
  repeat walk_at "w"
  refine fr_ok hC hR (den_ne p q) (lt9000 (sz_den hp hq).1 (by omega)) ?_
  rw [add_frD]
  exact wk' h
theorem lessened_ok (hR : fns "fr" = some f_fr) (hF : fns "lessened" = some f_lessened) (hp : Sz j p) (hq : Sz k q) (hjk : j + k ≤ 9000) (h : Q (frD (p - q)) S) : C (m + 2) (.d (.fn "lessened")) [.d (frD p), .d (frD q)] S Q E := by
  have m1 := mul_ok (i := p.num) (j := (q.den : Int)) hp.1 (by simpa using hq.2) (by omega)
  have m2 := mul_ok (i := q.num) (j := (p.den : Int)) hq.1 (by simpa using hp.2) (by omega)
  have m3 := mul_ok (i := (p.den : Int)) (j := (q.den : Int)) (by simpa using hp.2) (by simpa using hq.2) (by omega)
  refine call_fn hC hF rfl ?_
  simp only [f_lessened]; walk_at "e"
  repeat walk_at "w"
  refine fr_ok hC hR (den_ne p q) (lt9000 (sz_den hp hq).1 (by omega)) ?_
  rw [sub_frD]
  exact wk' h
theorem multiplied_ok (hR : fns "fr" = some f_fr) (hF : fns "multiplied" = some f_multiplied) (hp : Sz j p) (hq : Sz k q) (hjk : j + k ≤ 9000) (h : Q (frD (p * q)) S) : C (m + 2) (.d (.fn "multiplied")) [.d (frD p), .d (frD q)] S Q E := by
  have m1 := mul_ok (i := p.num) (j := q.num) hp.1 hq.1 (by omega)
  have m3 := mul_ok (i := (p.den : Int)) (j := (q.den : Int)) (by simpa using hp.2) (by simpa using hq.2) (by omega)
  refine call_fn hC hF rfl ?_
  simp only [f_multiplied]; walk_at "e"
  repeat walk_at "w"
  refine fr_ok hC hR (den_ne p q) (lt9000 (sz_den hp hq).1 (by omega)) ?_
  rw [mul_frD]
  exact wk' h
theorem divided_ok (hR : fns "fr" = some f_fr) (hF : fns "divided" = some f_divided) (hp : Sz j p) (hq : Sz k q) (h0 : q ≠ 0) (hjk : j + k ≤ 9000) (h : Q (frD (p / q)) S) : C (m + 2) (.d (.fn "divided")) [.d (frD p), .d (frD q)] S Q E := by
  have m1 := mul_ok (i := p.num) (j := (q.den : Int)) hp.1 (by simpa using hq.2) (by omega)
  have m3 := mul_ok (i := (p.den : Int)) (j := q.num) (by simpa using hp.2) hq.1 (by omega)
  refine call_fn hC hF rfl ?_
  simp only [f_divided]; walk_at "e"
  repeat walk_at "w"
  refine fr_ok hC hR (dn_ne h0) (lt9000 (sz_den hp hq).2.2.2 (by omega)) ?_
  rw [div_frD]
  exact wk' h
theorem lesser_ok (hF : fns "lesser" = some f_lesser) (hp : Sz j p) (hq : Sz k q) (hjk : j + k ≤ 9000) (h : Q (.bl (decide (p < q))) S) : C (m + 1) (.d (.fn "lesser")) [.d (frD p), .d (frD q)] S Q E := by
  have m1 := mul_ok (i := p.num) (j := (q.den : Int)) hp.1 (by simpa using hq.2) (by omega)
  have m2 := mul_ok (i := q.num) (j := (p.den : Int)) hq.1 (by simpa using hp.2) (by omega)
  refine call_fn hC hF rfl ?_
  simp only [f_lesser]; walk_at "e"
  repeat walk_at "w"
  rw [lt_frD]
  exact wk' h
/-- is it a whole number, no truth value -/
def isI : D → Bool
  | .int _ => true
  | _ => false
theorem is_integer_ok (hF : fns "is_integer" = some f_is_integer) {n : Nat} {x : D} (hx : dat n x = true) (h : Q (.bl (isI x)) S) : C (m + 1) (.d (.fn "is_integer")) [.d x] S Q E := by
  refine call_fn hC hF rfl ?_
  simp only [f_is_integer]; walk_at "e"
  rcases dat_cases hx with rfl | ⟨b', rfl⟩ | ⟨i', rfl⟩ | ⟨s', rfl⟩ | ⟨xs, k', hk, rfl, hxs⟩ <;> (repeat walk_at "w") <;> exact wk' h
def isPaper (x : D) (n : Nat) : Bool := match x with
  | .tup xs => decide (xs.length = n)
  | _ => false
theorem is_paper_ok (hF : fns "is_paper_of" = some f_is_paper_of) {n c : Nat} {x : D} (hx : dat n x = true) (h : Q (.bl (isPaper x c)) S) : C (m + 1) (.d (.fn "is_paper_of")) [.d x, .d (.int (c : Int))] S Q E := by
  refine call_fn hC hF rfl ?_
  simp only [f_is_paper_of]; walk_at "e"
  rcases dat_cases hx with rfl | ⟨b', rfl⟩ | ⟨i', rfl⟩ | ⟨s', rfl⟩ | ⟨xs, k', hk, rfl, hxs⟩
  · repeat walk_at "w"
    exact wk' h
  · repeat walk_at "w"
    exact wk' h
  · repeat walk_at "w"
    exact wk' h
  · repeat walk_at "w"
    exact wk' h
  · repeat walk_at "w"
    intro _
    repeat walk_at "w"
    have e : decide (((xs.length : Nat) : Int) = (c : Int)) = isPaper (.tup xs) c := by
      show _ = decide (xs.length = c)
      rw [Bool.eq_iff_iff, decide_eq_true_iff, decide_eq_true_iff]
      omega
    rw [e]
    exact wk' h
/-- a value in the form of a fraction -/
def isF : D → Bool
  | .tup [.int a, .int b] => decide (0 < b) && decide (Int.gcd a b = 1)
  | _ => false
omit hC in
theorem isF_frD (q : Rat) : isF (frD q) = true := by
  show (decide (0 < (q.den : Int)) && decide (Int.gcd q.num (q.den : Int) = 1)) = true
  rw [decide_eq_true (by have := den_pos q; omega), decide_eq_true]
  · rfl
  · have := q.reduced
    unfold Nat.Coprime at this
    unfold Int.gcd
    simpa using this
omit hC in
theorem isF_of {x : D} (h : isF x = true) : ∃ q : Rat, x = frD q := by
  unfold isF at h
  split at h
  · rename_i a b
    rw [Bool.and_eq_true, decide_eq_true_iff, decide_eq_true_iff] at h
    refine ⟨⟨a, b.toNat, by omega, ?_⟩, ?_⟩
    · have := h.2
      unfold Int.gcd at this
      unfold Nat.Coprime
      rw [show b.toNat = b.natAbs by omega]
      exact this
    · show D.tup [.int a, .int b] = .tup [.int a, .int ((b.toNat : Nat) : Int)]
      rw [show ((b.toNat : Nat) : Int) = b by omega]
  · cases h
theorem is_frac_ok (h1 : fns "is_integer" = some f_is_integer) (h2 : fns "is_paper_of" = some f_is_paper_of) (hF : fns "is_frac" = some f_is_frac) {n : Nat} {x : D} (hx : dat n x = true) (h : Q (.bl (isF x)) S) : C (m + 2) (.d (.fn "is_frac")) [.d x] S Q E := by
  refine call_fn hC hF rfl ?_
  simp only [f_is_frac]; walk_at "e"
  repeat walk_at "w"
  refine is_paper_ok hC h2 (c := 2) hx ?_
  by_cases hp : isPaper x 2 = true
  · obtain ⟨a, b, rfl⟩ : ∃ a b, x = .tup [a, b] := by
      unfold isPaper at hp
      split at hp
      · rename_i xs
        have hl := of_decide_eq_true hp
        match xs, hl with
        | [a, b], _ => exact ⟨a, b, rfl⟩
      · cases hp
    obtain ⟨k, rfl⟩ : ∃ k, n = k + 1 := by
      cases n with
      | zero => cases hx
      | succ k => exact ⟨k, rfl⟩
    have hab : (dat k a && (dat k b && dats k [])) = true := hx
    rw [Bool.and_eq_true, Bool.and_eq_true] at hab
    rw [hp]
    repeat walk_at "w"
    refine is_integer_ok hC h1 hab.1 ?_
    repeat walk_at "w"
    refine if_b (fun ha => ?_) fun ha => ?_
    · obtain ⟨i, rfl⟩ : ∃ i, a = .int i := by cases a <;> first | exact ⟨_, rfl⟩ | cases ha
      repeat walk_at "w"
      refine is_integer_ok hC h1 hab.2.1 ?_
      repeat walk_at "w"
      refine if_b (fun hb => ?_) fun hb => ?_
      · obtain ⟨j, rfl⟩ : ∃ i, b = .int i := by cases b <;> first | exact ⟨_, rfl⟩ | cases hb
        have e : isF (.tup [.int i, .int j]) = (decide (0 < j) && decide (Int.gcd i j = 1)) := rfl
        repeat walk_at "w"
        refine if_dec (fun h0 => ?_) fun h0 => ?_
        · rw [e, decide_eq_true h0, Bool.true_and] at h
          repeat walk_at "w"
          have e2 : decide (((Int.gcd i j : Nat) : Int) = 1) = decide (Int.gcd i j = 1) := by
            rw [Bool.eq_iff_iff, decide_eq_true_iff, decide_eq_true_iff]
            omega
          rw [e2]
          exact wk' h
        · rw [e, decide_eq_false h0, Bool.false_and] at h
          repeat walk_at "w"
          rw [decide_eq_false h0]
          exact wk' h
      · repeat walk_at "w"
        have e : isF (.tup [.int i, b]) = false := by cases b <;> first | rfl | cases hb
        rw [e] at h
        exact wk' h
    · repeat walk_at "w"
      have e : isF (.tup [a, b]) = false := by cases a <;> first | rfl | cases ha
      rw [e] at h
      exact wk' h
  · rw [Bool.not_eq_true] at hp
    rw [hp]
    repeat walk_at "w"
    have e : isF x = false := by
      cases hf : isF x with
      | false => rfl
      | true =>
        obtain ⟨q, rfl⟩ := isF_of hf
        cases hp
    rw [e] at h
    exact wk' h
end PL
/-! fractions: light ones; the laws' own fractions, by Euclid -/
namespace PL
open PD
variable {fns : String → Option FnD} {C : Nat → CallT} (hC : Calls fns C)
variable {j k m : Nat} {p q : Rat} {S : Sto} {Q : QV} {E : QX}
/-- a fraction below a limit -/
def isFB (l : Int) : D → Bool
  | .tup [.int a, .int b] => isF (.tup [.int a, .int b]) && (decide ((if a < 0 then -a else a) < l) && decide (b < l))
  | _ => false
theorem isFB_frD {l : Int} : isFB l (frD q) = (decide ((if q.num < 0 then -q.num else q.num) < l) && decide ((q.den : Int) < l)) := by
  show (isF (frD q) && _) = _
  rw [isF_frD, Bool.true_and]
theorem isFB_not {l : Int} {x : D} (h : isF x = false) : isFB l x = false := by
  unfold isFB
  split
  · rw [h]
    rfl
  · rfl
/-- by size -/
theorem isFB_sz {l : Nat} (h : Sz k q) (hl : 2 ^ k ≤ l) : isFB (l : Int) (frD q) = true := by
  have a := h.1
  have b := h.2
  rw [isFB_frD, decide_eq_true, decide_eq_true]
  · rfl
  · omega
  · split <;> omega
include hC
theorem is_frac_below_ok (h1 : fns "is_integer" = some f_is_integer) (h2 : fns "is_paper_of" = some f_is_paper_of) (h3 : fns "is_frac" = some f_is_frac) (hF : fns "is_frac_below" = some f_is_frac_below) {n : Nat} {x : D} {l : Int} (hx : dat n x = true) (h : Q (.bl (isFB l x)) S) :
    C (m + 3) (.d (.fn "is_frac_below")) [.d x, .d (.int l)] S Q E := by
  refine call_fn hC hF rfl ?_
  simp only [f_is_frac_below]; walk_at "e"
  repeat walk_at "w"
  refine is_frac_ok hC h1 h2 h3 hx ?_
  by_cases hf : isF x = true
  · obtain ⟨q, rfl⟩ := isF_of hf
    rw [hf]
    rw [isFB_frD] at h
    repeat walk_at "w"
    refine if_dec (fun ha => ?_) fun ha => ?_
    · rw [decide_eq_true ha, Bool.true_and] at h
      repeat walk_at "w"
      exact wk' h
    · rw [decide_eq_false ha, Bool.false_and] at h
      rw [decide_eq_false ha]
      exact wk' h
  · rw [Bool.not_eq_true] at hf
    rw [hf]
    rw [isFB_not hf] at h
    repeat walk_at "w"
    exact wk' h
abbrev isLt (x : D) : Bool := isFB ((10 ^ 40 : Nat) : Int) x
theorem is_light_ok (h1 : fns "is_integer" = some f_is_integer) (h2 : fns "is_paper_of" = some f_is_paper_of) (h3 : fns "is_frac" = some f_is_frac) (h4 : fns "is_frac_below" = some f_is_frac_below) (hF : fns "is_light" = some f_is_light) {n : Nat} {x : D} (hx : dat n x = true) (h : Q (.bl (isLt x)) S) :
    C (m + 4) (.d (.fn "is_light")) [.d x] S Q E := by
  refine call_fn hC hF rfl ?_
  simp only [f_is_light]; walk_at "e"
  repeat walk_at "w"
  exact is_frac_below_ok hC h1 h2 h3 h4 hx (wk' h)
theorem told_frac_ok (hF : fns "told_frac" = some f_told_frac) (hq : Sz k q) (hk : k ≤ 9000) (h : Q (frD q) S) : C (m + 1) (.d (.fn "told_frac")) [.d (frD q)] S Q E := by
  have hb : ∀ n : Nat, n < 2 ^ k → n < 10 ^ 3000 := fun n hn => Nat.lt_of_lt_of_le (Nat.lt_of_lt_of_le hn (Nat.pow_le_pow_right (by decide) hk)) (by decide +kernel)
  have a := hb _ hq.1
  have b := hb _ hq.2
  refine call_fn hC hF rfl ?_
  simp only [f_told_frac]; walk_at "e"
  repeat walk_at "w"
  refine if_dec (fun ha => ?_) fun ha => ?_
  · exfalso
    generalize (10 ^ 3000 : Nat) = B at *
    split at ha <;> omega
  repeat walk_at "w"
  refine if_dec (fun hb => ?_) fun hb => ?_
  · exfalso
    generalize (10 ^ 3000 : Nat) = B at *
    omega
  repeat walk_at "w"
  exact wk' h
omit hC in
theorem abs_nat (u : Int) : (if u < 0 then -u else u) = ((u.natAbs : Nat) : Int) := by split <;> omega
omit hC in
theorem fmod_nat (a b : Nat) : (a : Int).fmod (b : Int) = ((a % b : Nat) : Int) := by
  rw [Int.fmod_eq_emod_of_nonneg _ (Int.natCast_nonneg _)]
  exact (Int.natCast_emod a b).symm
omit hC in
theorem euclid_step {a b i N : Nat} (hb : 0 < b) (h : (i = 0 ∧ b * b < 2 ^ N) ∨ (0 < i ∧ b < a ∧ a * b * 2 ^ (i - 1) < 2 ^ N)) : 0 < i + 1 ∧ a % b < b ∧ b * (a % b) * 2 ^ (i + 1 - 1) < 2 ^ N := by
  have hm := Nat.mod_lt a hb
  refine ⟨Nat.succ_pos _, hm, ?_⟩
  rw [Nat.add_sub_cancel]
  rcases h with ⟨rfl, h⟩ | ⟨hi, hba, h⟩
  · rw [Nat.pow_zero, Nat.mul_one]
    exact Nat.lt_of_le_of_lt (Nat.mul_le_mul_left _ (Nat.le_of_lt hm)) h
  · refine Nat.lt_of_le_of_lt ?_ h
    have h2 : 2 * (a % b) ≤ a := by
      have e := Nat.div_add_mod a b
      have q : 1 ≤ a / b := (Nat.one_le_div_iff hb).mpr (Nat.le_of_lt hba)
      have : b ≤ b * (a / b) := Nat.le_mul_of_pos_right _ q
      omega
    obtain ⟨k, rfl⟩ : ∃ k, i = k + 1 := ⟨i - 1, by omega⟩
    rw [Nat.add_sub_cancel, Nat.pow_succ, ← Nat.mul_assoc, Nat.mul_right_comm]
    refine Nat.mul_le_mul_right _ ?_
    calc b * (a % b) * 2 = b * (2 * (a % b)) := by rw [Nat.mul_assoc, Nat.mul_comm (a % b) 2]
      _ ≤ b * a := Nat.mul_le_mul_left _ h2
      _ = a * b := Nat.mul_comm _ _
theorem law_fr_ok (hF : fns "_law_fr" = some f__law_fr) {u l : Int} (hl : l ≠ 0) (h9 : l.natAbs < 2 ^ 9000) (h : Q (frD (Rat.divInt u l)) S) : C (m + 1) (.d (.fn "_law_fr")) [.d (.int u), .d (.int l)] S Q E := by
  have hg := gcd_pos (u := u) hl
  have n1 := fr_num (u := u) hl
  have n2 := fr_den (u := u) hl
  have hgl : Int.gcd u l ≤ l.natAbs := Nat.le_of_dvd (by omega) (by simpa using Int.natAbs_dvd_natAbs.mpr (Int.gcd_dvd_right u l))
  have hg9 : Int.gcd u l < 2 ^ 9000 := Nat.lt_of_le_of_lt hgl h9
  refine call_fn hC hF rfl ?_
  simp only [f__law_fr]; walk_at "e"
  repeat walk_at "w"
  have fin : ∀ (o4 : Option AV), wpB (C m) [.asg (.n 2) (.ite (.cmp .gt (.var 1) (.int 0)) (.var 2) (.bin .sub (.int 0) (.var 2))), .ret (.tup [.bin .fdiv (.var 0) (.var 2), .bin .fdiv (.var 1) (.var 2)])]
      ⟨fun _ S => wkQ Q .non S, wkQ Q, fun _ _ => False, fun _ _ => False, fun x fs _ S => wkX E x fs S⟩ [some (.d (.int u)), some (.d (.int l)), some (.d (.int ((Int.gcd u l : Nat) : Int))), some (.d (.int 0)), o4] S := fun o4 => by
    repeat walk_at "w"
    refine if_dec (fun h0 => ?_) fun h0 => ?_
    · rw [if_neg (by omega)] at n1 n2
      have hne : (Int.gcd u l : Int) ≠ 0 := by omega
      have hh : (Int.gcd u l : Int).natAbs < 2 ^ 9000 := by rw [Int.natAbs_natCast]; exact hg9
      repeat walk_at "w"
      rw [n1, n2]
      exact wk' h
    · rw [if_pos (by omega)] at n1 n2
      have hne : (0 - (Int.gcd u l : Int)) ≠ 0 := by omega
      have hh : (0 - (Int.gcd u l : Int)).natAbs < 2 ^ 9000 := by rw [Int.zero_sub, Int.natAbs_neg, Int.natAbs_natCast]; exact hg9
      repeat walk_at "w"
      rw [Int.zero_sub, n1, n2]
      exact wk' h
  rw [abs_nat, abs_nat]
  refine for_items (fun i e T => T = S ∧ ∃ (a b : Nat) (o4 : Option AV), e = [some (.d (.int u)), some (.d (.int l)), some (.d (.int (a : Int))), some (.d (.int (b : Int))), o4] ∧ Nat.gcd a b = Int.gcd u l ∧ ((i = 0 ∧ b * b < 2 ^ 18000) ∨ (0 < i ∧ b < a ∧ a * b * 2 ^ (i - 1) < 2 ^ 18000)))
    ⟨rfl, u.natAbs, l.natAbs, none, rfl, rfl, .inl ⟨rfl, ?_⟩⟩ (fun _ _ _ _ => trivial) ?_ ?_
  · rw [show 18000 = 9000 + 9000 from rfl, Nat.pow_add]
    exact Nat.mul_lt_mul'' h9 h9
  · rintro i d e T ⟨rfl, a, b, o4, rfl, hgcd, hb⟩ hd
    repeat walk_at "w"
    refine if_dec (fun h0 => ?_) fun h0 => ?_
    · have hb0 : b = 0 := by omega
      subst hb0
      rw [Nat.gcd_zero_right] at hgcd
      subst hgcd
      walk_at "w"
      walk_at "w"
      exact fin _
    · have hb0 : 0 < b := by omega
      repeat walk_at "w"
      rw [fmod_nat]
      refine ⟨rfl, b, a % b, _, rfl, ?_, .inr (euclid_step hb0 hb)⟩
      rw [Nat.gcd_comm, ← Nat.gcd_rec, Nat.gcd_comm]
      exact hgcd
  · rintro e T ⟨rfl, a, b, o4, rfl, hgcd, hb⟩
    have hb0 : b = 0 := by
      rw [rng_len] at hb
      rcases hb with ⟨h1, _⟩ | ⟨_, h1, h2⟩
      · cases h1
      · cases Nat.eq_zero_or_pos b with
        | inl h => exact h
        | inr h =>
          exfalso
          have h3 : 1 ≤ a * b := Nat.mul_pos (by omega) h
          have h4 : 2 ^ 18000 ≤ 2 ^ (((40000 : Int) - 0).toNat - 1) := Nat.pow_le_pow_right (by decide) (by decide)
          have h5 := Nat.mul_le_mul h3 h4
          rw [Nat.one_mul] at h5
          exact absurd h2 (Nat.not_lt.mpr h5)
    subst hb0
    rw [Nat.gcd_zero_right] at hgcd
    subst hgcd
    exact fin _
end PL
/-! fractions: the laws' own operations -/
namespace PL
open PD
variable {fns : String → Option FnD} {C : Nat → CallT} (hC : Calls fns C)
variable {j k m : Nat} {p q : Rat} {S : Sto} {Q : QV} {E : QX}
include hC
theorem law_add_ok (hR : fns "_law_fr" = some f__law_fr) (hF : fns "_law_add" = some f__law_add) (hp : Sz j p) (hq : Sz k q) (hjk : j + k ≤ 9000) (h : Q (frD (p + q)) S) : C (m + 2) (.d (.fn "_law_add")) [.d (frD p), .d (frD q)] S Q E := by
  have m1 := mul_ok (i := p.num) (j := (q.den : Int)) hp.1 (by simpa using hq.2) (by omega)
  have m2 := mul_ok (i := q.num) (j := (p.den : Int)) hq.1 (by simpa using hp.2) (by omega)
  have m3 := mul_ok (i := (p.den : Int)) (j := (q.den : Int)) (by simpa using hp.2) (by simpa using hq.2) (by omega)
  refine call_fn hC hF rfl ?_
  simp only [f__law_add]; walk_at "e"
  repeat walk_at "w"
  refine law_fr_ok hC hR (den_ne p q) (lt9000 (sz_den hp hq).1 (by omega)) ?_
  rw [add_frD]
  exact wk' h
theorem law_sub_ok (hR : fns "_law_fr" = some f__law_fr) (hF : fns "_law_sub" = some f__law_sub) (hp : Sz j p) (hq : Sz k q) (hjk : j + k ≤ 9000) (h : Q (frD (p - q)) S) : C (m + 2) (.d (.fn "_law_sub")) [.d (frD p), .d (frD q)] S Q E := by
  have m1 := mul_ok (i := p.num) (j := (q.den : Int)) hp.1 (by simpa using hq.2) (by omega)
  have m2 := mul_ok (i := q.num) (j := (p.den : Int)) hq.1 (by simpa using hp.2) (by omega)
  have m3 := mul_ok (i := (p.den : Int)) (j := (q.den : Int)) (by simpa using hp.2) (by simpa using hq.2) (by omega)
  refine call_fn hC hF rfl ?_
  simp only [f__law_sub]; walk_at "e"
  repeat walk_at "w"
  refine law_fr_ok hC hR (den_ne p q) (lt9000 (sz_den hp hq).1 (by omega)) ?_
  rw [sub_frD]
  exact wk' h
theorem law_mul_ok (hR : fns "_law_fr" = some f__law_fr) (hF : fns "_law_mul" = some f__law_mul) (hp : Sz j p) (hq : Sz k q) (hjk : j + k ≤ 9000) (h : Q (frD (p * q)) S) : C (m + 2) (.d (.fn "_law_mul")) [.d (frD p), .d (frD q)] S Q E := by
  have m0 := mul_ok (i := p.num) (j := q.num) hp.1 hq.1 (by omega)
  have m3 := mul_ok (i := (p.den : Int)) (j := (q.den : Int)) (by simpa using hp.2) (by simpa using hq.2) (by omega)
  refine call_fn hC hF rfl ?_
  simp only [f__law_mul]; walk_at "e"
  repeat walk_at "w"
  refine law_fr_ok hC hR (den_ne p q) (lt9000 (sz_den hp hq).1 (by omega)) ?_
  rw [mul_frD]
  exact wk' h
theorem law_div_ok (hR : fns "_law_fr" = some f__law_fr) (hF : fns "_law_div" = some f__law_div) (hp : Sz j p) (hq : Sz k q) (h0 : q ≠ 0) (hjk : j + k ≤ 9000) (h : Q (frD (p / q)) S) : C (m + 2) (.d (.fn "_law_div")) [.d (frD p), .d (frD q)] S Q E := by
  have m1 := mul_ok (i := p.num) (j := (q.den : Int)) hp.1 (by simpa using hq.2) (by omega)
  have m4 := mul_ok (i := (p.den : Int)) (j := q.num) (by simpa using hp.2) hq.1 (by omega)
  refine call_fn hC hF rfl ?_
  simp only [f__law_div]; walk_at "e"
  repeat walk_at "w"
  refine law_fr_ok hC hR (dn_ne h0) (lt9000 (sz_den hp hq).2.2.2 (by omega)) ?_
  rw [div_frD]
  exact wk' h
theorem law_lt_ok (hF : fns "_law_lt" = some f__law_lt) (hp : Sz j p) (hq : Sz k q) (hjk : j + k ≤ 9000) (h : Q (.bl (decide (p < q))) S) : C (m + 1) (.d (.fn "_law_lt")) [.d (frD p), .d (frD q)] S Q E := by
  have m1 := mul_ok (i := p.num) (j := (q.den : Int)) hp.1 (by simpa using hq.2) (by omega)
  have m2 := mul_ok (i := q.num) (j := (p.den : Int)) hq.1 (by simpa using hp.2) (by omega)
  refine call_fn hC hF rfl ?_
  simp only [f__law_lt]; walk_at "e"
  repeat walk_at "w"
  rw [lt_frD]
  exact wk' h
/-- data, or no tuple at all -/
def Vl (n : Nat) (S : Sto) (x : D) : Prop := dat n x = true ∨ isinst S x (.ty "tuple") = some false
omit hC in
theorem vls {n : Nat} {xs : List D} (h : dats n xs = true) : ∀ x ∈ xs, Vl n S x := fun x hx => by
  obtain ⟨i, hi⟩ := List.mem_iff_getElem?.mp hx
  exact .inl (dats_get h hi)
omit hC in
theorem vl_lst {n a : Nat} {xs : List D} (h : S a = some (.lst xs)) : Vl n S (.ref a) := .inr (by
  show (tyOf S (.ref a)).map _ = _
  unfold tyOf
  simp only [h]
  rfl)
theorem light_vl (h1 : fns "is_integer" = some f_is_integer) (h2 : fns "is_paper_of" = some f_is_paper_of) (h3 : fns "is_frac" = some f_is_frac) (h4 : fns "is_frac_below" = some f_is_frac_below) (hF : fns "is_light" = some f_is_light) {n : Nat} {x : D} (hx : Vl n S x) (h : Q (.bl (isLt x)) S) :
    C (m + 4) (.d (.fn "is_light")) [.d x] S Q E := by
  rcases hx with hx | hx
  · exact is_light_ok hC h1 h2 h3 h4 hF hx h
  · have e : isLt x = false := by
      unfold isLt isFB
      split
      · cases hx
      · rfl
    rw [e] at h
    refine call_fn hC hF rfl ?_
    simp only [f_is_light]; walk_at "e"
    repeat walk_at "w"
    refine call_fn hC h4 rfl ?_
    simp only [f_is_frac_below]; walk_at "e"
    repeat walk_at "w"
    refine call_fn hC h3 rfl ?_
    simp only [f_is_frac]; walk_at "e"
    repeat walk_at "w"
    refine call_fn hC h2 rfl ?_
    simp only [f_is_paper_of]; walk_at "e"
    repeat walk_at "w"
    refine u_isi hx ?_
    repeat walk_at "w"
    refine wk' ?_
    repeat walk_at "w"
    refine wk' ?_
    repeat walk_at "w"
    refine wk' ?_
    repeat walk_at "w"
    exact wk' h
omit hC in
theorem frD_dat (n : Nat) (q : Rat) : dat (n + 1) (frD q) = true := by cases n <;> rfl
omit hC in
theorem frD_one : D.tup [.int 1, .int 1] = frD 1 := rfl
omit hC in
/-- two ints as a fraction in lowest terms -/
theorem frD_of (a : Int) (b : Nat) (hb : b ≠ 0) (hc : a.natAbs.Coprime b) : D.tup [.int a, .int (b : Int)] = frD ⟨a, b, hb, hc⟩ := rfl
end PL
/-! k69, the plain law: what a keeper loses -/
namespace K69
/-- the part that is lost -/
def F (r s : Rat) : Rat := (r - s) * (r - s) / (r * r + s * s)
theorem sq_pos {r s : Rat} (hr : 0 < r) (hs : 0 < s) : 0 < r * r + s * s := by
  have := Rat.mul_pos hr hr
  have := Rat.mul_pos hs hs
  grind
theorem ne_of_pos {x : Rat} (h : 0 < x) : x ≠ 0 := fun z => by rw [z] at h; exact absurd h (by decide)
theorem lost_F (r s : Rat) (hr : 0 < r) (hs : 0 < s) : (r + s * s / r - 2 * s) / (r + s * s / r) = F r s ∧ r + s * s / r ≠ 0 := by
  have h := sq_pos hr hs
  have h2 : r + s * s / r ≠ 0 := by
    intro z
    have h0 := ne_of_pos h
    have hr0 := ne_of_pos hr
    apply h0
    have : (r + s * s / r) * r = 0 := by rw [z]; grind
    clear h hr hs
    grind
  refine ⟨?_, h2⟩
  have h0 := ne_of_pos h
  have hr0 := ne_of_pos hr
  clear h hr hs
  unfold F
  grind
theorem part_F (r s : Rat) (hr : 0 < r) (hs : 0 < s) : (1 - s / r) * (1 - s / r) / (1 + s / r * (s / r)) = F r s ∧ 1 + s / r * (s / r) ≠ 0 := by
  have h := sq_pos hr hs
  have h2 : 1 + s / r * (s / r) ≠ 0 := by
    intro z
    have h0 := ne_of_pos h
    have hr0 := ne_of_pos hr
    apply h0
    have : (1 + s / r * (s / r)) * (r * r) = 0 := by rw [z]; grind
    clear h hr hs
    grind
  refine ⟨?_, h2⟩
  have h0 := ne_of_pos h
  have hr0 := ne_of_pos hr
  clear h hr hs
  unfold F
  grind
theorem kept_F (w r s : Rat) (hw : 0 < w) (hr : 0 < r) (hs : 0 < s) : w * ((1 * r - s) * (1 * r - s)) / r / (w * r * (1 * 1) + w / r * (s * s)) = F r s ∧ w * r * (1 * 1) + w / r * (s * s) ≠ 0 := by
  have h := sq_pos hr hs
  have h2 : w * r * (1 * 1) + w / r * (s * s) ≠ 0 := by
    intro z
    have : (w * r * (1 * 1) + w / r * (s * s)) * r = 0 := by rw [z]; grind
    have e : (w * r * (1 * 1) + w / r * (s * s)) * r = w * (r * r + s * s) := by grind
    rw [e] at this
    exact ne_of_pos (Rat.mul_pos hw h) this
  refine ⟨?_, h2⟩
  have h0 := ne_of_pos h
  have hr0 := ne_of_pos hr
  clear h hr hs
  unfold F
  grind
theorem div_le_div {a b c d : Rat} (hb : 0 < b) (hd : 0 < d) (h : a * d ≤ c * b) : a / b ≤ c / d := by
  have hbd := Rat.mul_pos hb hd
  refine Rat.le_of_mul_le_mul_right (c := b * d) ?_ hbd
  have e1 : a / b * (b * d) = a * d := by grind
  have e2 : c / d * (b * d) = c * b := by grind
  rw [e1, e2]
  exact h
theorem F_le {r x y : Rat} (hr : 0 < r) (hx : 0 < x) (hy : 0 < y) (h : 0 ≤ (x - y) * (r * r - y * x)) : F r x ≤ F r y := by
  unfold F
  refine div_le_div (sq_pos hr hx) (sq_pos hr hy) ?_
  have h2 := Rat.mul_nonneg (Rat.le_of_lt hr) h
  have e : (r - y) * (r - y) * (r * r + x * x) - (r - x) * (r - x) * (r * r + y * y) = 2 * (r * ((x - y) * (r * r - y * x))) := by grind
  grind
theorem quasi {r l s t : Rat} (hr : 0 < r) (hl : 0 < l) (h1 : l ≤ s) (h2 : s ≤ t) : F r s ≤ F r l ∨ F r s ≤ F r t := by
  have hs : 0 < s := by grind
  have ht : 0 < t := by grind
  by_cases h : l * s ≤ r * r
  · refine .inl (F_le hr hs hl (Rat.mul_nonneg ?_ ?_)) <;> grind
  · refine .inr (F_le hr hs ht ?_)
    have h3 : l * s ≤ t * s := Rat.mul_le_mul_of_nonneg_right (by grind) (by grind)
    have := Rat.mul_nonneg (a := t - s) (b := t * s - r * r) (by grind) (by grind)
    grind
theorem F_lt {r s : Rat} (hr : 0 < r) (hs : 0 < s) : F r s < 1 := by
  unfold F
  rw [Rat.div_lt_iff (sq_pos hr hs)]
  have := Rat.mul_pos hr hs
  grind
theorem F_self {r : Rat} (hr : 0 < r) : F r r = 0 := by
  unfold F
  have := sq_pos hr hr
  grind
end K69
/-! the deep syntax of law k69 (printed by gen.py) -/
namespace K69
open PD
abbrev c_WHOLE : D := .tup [.int 1, .int 1]
abbrev c_BEYOND : D := PL.c_BEYOND
abbrev c_LIGHT : D := PL.c_LIGHT
abbrev f_is_integer : FnD := PL.f_is_integer
abbrev f_is_paper_of : FnD := PL.f_is_paper_of
abbrev f_fr : FnD := PL.f_fr
abbrev f_added : FnD := PL.f_added
abbrev f_lessened : FnD := PL.f_lessened
abbrev f_multiplied : FnD := PL.f_multiplied
abbrev f_divided : FnD := PL.f_divided
abbrev f_lesser : FnD := PL.f_lesser
abbrev f_is_frac : FnD := PL.f_is_frac
abbrev f_is_frac_below : FnD := PL.f_is_frac_below
abbrev f_is_light : FnD := PL.f_is_light
abbrev f_told_frac : FnD := PL.f_told_frac
def f_need_above_all : FnD := { ps := ["values"], N := ["values", "at", "one"], dfl := [], body :=
    [.for (.t [(.n 1), 
    (.n 2)]) (.ienum (.var 0)) [.ifs (.or (.not (.call "is_light" [(.av 2)] [] [])) (.cmp .le (.idx (.var 2) (.int 0)) (.int 0))) [.rse "InvalidFraction" ["at"] [(.var 1)]] []], 
    .ret (.var 0)] }
def f_squared : FnD := { ps := ["one"], N := ["one"], dfl := [], body :=
    [.ret (.call "multiplied" [(.av 0), (.av 0)] [] [])] }
def f_held_of : FnD := { ps := ["weight", "rate"], N := ["weight", "rate"], dfl := [], body :=
    [.ret (.tup [(.call "multiplied" [(.av 0), (.av 1)] [] []), (.call "divided" [(.av 0), (.av 1)] [] [])])] }
def f_worth_by : FnD := { ps := ["held", "first", "second"], N := ["held", "first", "second"], dfl := [], body :=
    [.ret (.call "added" [(.call "multiplied" [(.idx (.var 0) (.int 0)), (.call "squared" [(.av 1)] [] [])] [] []), (.call "multiplied" [(.idx (.var 0) (.int 1)), 
    (.call "squared" [(.av 2)] [] [])] [] [])] [] [])] }
def f_loss_told : FnD := { ps := ["weight", "rate", "first", "second"], N := ["weight", "rate", "first", "second"], dfl := [], body :=
    [.ret (.call "divided" [(.call "multiplied" [(.av 0), (.call "squared" [(.call "lessened" [(.call "multiplied" [(.av 2), (.av 1)] [] []), (.av 3)] [] [])] [] [])] [] []), 
    (.av 1)] [] [])] }
def f_kept_worth : FnD := { ps := ["weight", "rate", "first", "second"], N := ["weight", "rate", "first", "second"], dfl := [], body :=
    [.ex (.call "need_above_all" [(.tup [(.var 0), (.var 1), (.var 2), (.var 3)])] [] []), .ret (.call "told_frac" [(.call "worth_by" [(.call "held_of" [(.av 0), (.av 1)] [] []), 
    (.av 2), (.av 3)] [] [])] [] [])] }
def f_keeper_loss : FnD := { ps := ["weight", "rate", "first", "second"], N := ["weight", "rate", "first", "second"], dfl := [], body :=
    [.ex (.call "need_above_all" [(.tup [(.var 0), (.var 1), (.var 2), (.var 3)])] [] []), .ret (.call "told_frac" [(.call "loss_told" [(.av 0), (.av 1), (.av 2), 
    (.av 3)] [] [])] [] [])] }
def f_part_lost : FnD := { ps := ["rate", "second"], N := ["rate", "second", "ratio"], dfl := [], body :=
    [.asg (.n 2) (.call "divided" [(.av 1), (.av 0)] [] []), .ret (.call "divided" [(.call "squared" [(.call "lessened" [(.gc "WHOLE" c_WHOLE), (.av 2)] [] [])] [] []), 
    (.call "added" [(.gc "WHOLE" c_WHOLE), (.call "squared" [(.av 2)] [] [])] [] [])] [] [])] }
def f_most_loss : FnD := { ps := ["rate", "low", "high"], N := ["rate", "low", "high", "both"], dfl := [], body :=
    [.ex (.call "need_above_all" [(.tup [(.var 0), (.var 1), (.var 2)])] [] []), .ifs (.call "lesser" [(.av 2), (.av 1)] [] []) [.rse "Refused" ["at"] [(.neg (.int 1))]] [], 
    .asg (.n 3) (.tup [(.call "part_lost" [(.av 0), (.av 1)] [] []), (.call "part_lost" [(.av 0), (.av 2)] [] [])]), 
    .ret (.call "told_frac" [(.ite (.call "lesser" [(.idx (.var 3) (.int 0)), (.idx (.var 3) (.int 1))] [] []) (.idx (.var 3) (.int 1)) (.idx (.var 3) (.int 0)))] [] [])] }
abbrev f__law_box : FnD := PL.f_box 90071 37561 17
abbrev f__law_take : FnD := PL.f__law_take
abbrev f__law_pick : FnD := PL.f__law_pick
abbrev f__law_is : FnD := PL.f__law_is
abbrev f__law_all : FnD := PL.f__law_all
def f__law_error : FnD := { ps := ["call"], N := ["call", "e"], dfl := [], body :=
    [.tryx [.ex (.cloc 0 [])] ["InvalidFraction", "Refused"] [1, 1] [[.ret (.tup [(.str [102, 114, 97, 99, 116, 105, 111, 110]), (.efld 1 "at")])], [.ret (.tup [(.str [114, 101, 102, 
    117, 115, 101, 100]), (.efld 1 "at")])]], .ret (.tup [(.str [116, 111, 108, 100])])] }
abbrev f__law_fr : FnD := PL.f__law_fr
abbrev f__law_add : FnD := PL.f__law_add
abbrev f__law_sub : FnD := PL.f__law_sub
abbrev f__law_mul : FnD := PL.f__law_mul
abbrev f__law_div : FnD := PL.f__law_div
abbrev f__law_lt : FnD := PL.f__law_lt
def f__law_lost : FnD := { ps := ["rate", "second"], N := ["rate", "second", "kept"], dfl := [], body :=
    [.asg (.n 2) (.call "_law_add" [(.av 0), (.call "_law_div" [(.call "_law_mul" [(.av 1), (.av 1)] [] []), (.av 0)] [] [])] [] []), .ret (.call "_law_div" [(.call "_law_sub" [(.av 2), 
    (.call "_law_mul" [(.tup [(.int 2), (.int 1)]), (.av 1)] [] [])] [] []), (.av 2)] [] [])] }
def f__law_one : FnD := { ps := ["box"], N := ["box", "high", "turn", "rate", "one", "other", "low", "top", "ends", "due", "part", "second", "told"], dfl := [], body :=
    [.asg (.n 1) (.call "_law_pick" [(.av 0), (.lst [(.int 9), (.bin .pow (.int 10) (.int 6)), (.bin .pow (.int 10) (.int 20))])] [] []), .asg (.t [(.n 3), (.n 4), 
    (.n 5)]) (.comp (.call "_law_fr" [(.bin .add (.int 1) (.call "_law_take" [(.av 0), (.av 1)] [] [])), (.bin .add (.int 1) (.call "_law_take" [(.av 0), 
    (.av 1)] [] []))] [] []) (.n 2) (.irng [(.int 3)]) [] [2]), .ifs (.cmp .eq (.call "_law_take" [(.av 0), (.int 4)] [] []) (.int 0)) [.asg (.n 4) (.var 3)] [], .asg (.t [(.n 6), 
    (.n 7)]) (.ite (.call "_law_lt" [(.av 5), (.av 4)] [] []) (.tup [(.var 5), (.var 4)]) (.tup [(.var 4), (.var 5)])), .asg (.n 8) (.lst [(.call "_law_lost" [(.av 3), (.av 6)] [] []), 
    (.call "_law_lost" [(.av 3), (.av 7)] [] [])]), .asg (.n 9) (.ite (.call "_law_lt" [(.idx (.var 8) (.int 0)), 
    (.idx (.var 8) (.int 1))] [] []) (.idx (.var 8) (.int 1)) (.idx (.var 8) (.int 0))), .ifs (.or (.not (.call "_law_is" [(.tup [(.call "most_loss" [(.av 3), (.av 6), (.av 7)] [] []), 
    (.call "most_loss" [(.var 3), (.var 6), (.var 7)] ["rate", "low", "high"] [])]), (.tup [(.var 9), (.var 9)])] [] [])) (.not (.call "_law_lt" [(.av 9), (.tup [(.int 1), 
    (.int 1)])] [] []))) [.ret (.bl false)] [], .for (.n 10) (.ival (.lst [(.tup [(.int 0), (.int 1)]), (.tup [(.int 1), (.int 3)]), (.tup [(.int 1), (.int 2)]), (.tup [(.int 9), 
    (.int 10)]), (.tup [(.int 1), (.int 1)])])) [.asg (.n 11) (.call "_law_add" [(.av 6), (.call "_law_mul" [(.av 10), (.call "_law_sub" [(.av 7), (.av 6)] [] [])] [] [])] [] []), 
    .ifs (.cmp .lt (.blt .max [(.var 11)]) (.bin .pow (.int 10) (.int 40))) [.asg (.n 12) (.call "_law_div" [(.call "keeper_loss" [(.tup [(.int 3), (.int 7)]), (.av 3), (.tup [(.int 1), 
    (.int 1)]), (.av 11)] [] []), (.call "kept_worth" [(.tup [(.int 3), (.int 7)]), (.av 3), (.tup [(.int 1), (.int 1)]), (.av 11)] [] [])] [] []), 
    .ifs (.or (.cmp .ne (.var 12) (.call "_law_lost" [(.av 3), (.av 11)] [] [])) (.call "_law_lt" [(.av 9), (.av 12)] [] [])) [.ret (.bl false)] []] []], 
    .ifs (.and (.call "_law_lt" [(.av 6), (.av 7)] [] []) (.not (.call "_law_is" [(.call "_law_error" [(.lam [] ["rate", "top", "low"] (.call "most_loss" [(.av 0), (.av 1), 
    (.av 2)] [] []) [3, 7, 6] [])] [] []), (.tup [(.str [114, 101, 102, 117, 115, 101, 100]), (.neg (.int 1))])] [] []))) [.ret (.bl false)] [], 
    .ret (.call "_law_is" [(.call "most_loss" [(.av 3), (.av 3), (.av 3)] [] []), (.tup [(.int 0), (.int 1)])] [] [])] }
def f_law : FnD := { ps := ["script"], N := ["script", "box", "turn", "bads", "some", "edge"], dfl := [], body :=
    [.asg (.n 1) (.call "_law_box" [(.av 0)] [] []), .for (.n 2) (.irng [(.int 14)]) [.ifs (.not (.call "_law_one" [(.av 1)] [] [])) [.ret (.bl false)] []], .asg (.n 3) (.lst [.non, 
    (.int 1), (.tup [(.int 0), (.int 1)]), (.tup [(.neg (.int 1)), (.int 2)]), (.tup [(.int 2), (.int 4)]), (.tup [(.int 1), (.int 0)]), (.lst [(.int 1), (.int 2)]), (.tup [(.bl true), 
    (.int 1)]), (.tup [(.bin .pow (.int 10) (.int 40)), (.int 1)]), (.tup [(.int 1), (.bin .pow (.int 10) (.int 40))])]), 
    .ifs (.or (.not (.call "_law_all" [(.lam ["value"] [] (.call "most_loss" [(.av 0), .non, .non] [] []) [] []), (.av 3), (.tup [(.str [102, 114, 97, 99, 116, 105, 111, 110]), 
    (.int 0)])] [] [])) (.not (.call "_law_all" [(.lam ["one"] [] (.call "most_loss" [(.tup [(.int 1), (.int 1)]), (.av 0), .non] [] []) [] []), (.av 3), (.tup [(.str [102, 114, 97, 99, 
    116, 105, 111, 110]), (.int 1)])] [] []))) [.ret (.bl false)] [], .ifs (.not (.call "_law_all" [(.lam ["value"] [] (.call "most_loss" [(.tup [(.int 1), (.int 1)]), (.tup [(.int 5), 
    (.int 1)]), (.av 0)] [] []) [] []), (.av 3), (.tup [(.str [102, 114, 97, 99, 116, 105, 111, 110]), (.int 2)])] [] [])) [.ret (.bl false)] [], 
    .asg (.n 4) (.tup [(.call "most_loss" [(.tup [(.int 1), (.int 1)]), (.tup [(.int 1), (.int 2)]), (.tup [(.int 2), (.int 1)])] [] []), (.call "most_loss" [(.tup [(.int 1), 
    (.int 1)]), (.tup [(.int 1), (.int 2)]), (.tup [(.int 1), (.int 1)])] [] []), (.call "most_loss" [(.tup [(.int 2), (.int 1)]), (.tup [(.int 2), (.int 1)]), (.tup [(.int 6), 
    (.int 1)])] [] []), (.call "most_loss" [(.tup [(.int 1), (.int 1)]), (.tup [(.int 1), (.bin .pow (.int 10) (.int 30))]), (.tup [(.int 1), (.int 1)])] [] [])]), 
    .asg (.n 5) (.bin .pow (.int 10) (.int 30)), .ret (.call "_law_is" [(.av 4), (.tup [(.tup [(.int 1), (.int 5)]), (.tup [(.int 1), (.int 5)]), (.tup [(.int 2), (.int 5)]), 
    (.call "_law_fr" [(.bin .mul (.bin .sub (.var 5) (.int 1)) (.bin .sub (.var 5) (.int 1))), (.bin .add (.bin .mul (.var 5) (.var 5)) (.int 1))] [] [])])] [] [])] }
def tb : PS.Tb where
  fns := [("is_integer", f_is_integer), ("is_paper_of", f_is_paper_of), ("fr", f_fr), ("added", f_added), ("lessened", f_lessened), ("multiplied", f_multiplied), ("divided", f_divided), 
    ("lesser", f_lesser), ("is_frac", f_is_frac), ("is_frac_below", f_is_frac_below), ("is_light", f_is_light), ("told_frac", f_told_frac), ("need_above_all", f_need_above_all), 
    ("squared", f_squared), ("held_of", f_held_of), ("worth_by", f_worth_by), ("loss_told", f_loss_told), ("kept_worth", f_kept_worth), ("keeper_loss", f_keeper_loss), ("part_lost", 
    f_part_lost), ("most_loss", f_most_loss), ("_law_box", f__law_box), ("_law_take", f__law_take), ("_law_pick", f__law_pick), ("_law_is", f__law_is), ("_law_all", f__law_all), 
    ("_law_error", f__law_error), ("_law_fr", f__law_fr), ("_law_add", f__law_add), ("_law_sub", f__law_sub), ("_law_mul", f__law_mul), ("_law_div", f__law_div), ("_law_lt", f__law_lt), 
    ("_law_lost", f__law_lost), ("_law_one", f__law_one), ("law", f_law)]
  errs := [("InvalidFraction", ["at"]), ("InvalidSize", ["word"]), ("Refused", ["at"])]
  gcs := [("WHOLE", c_WHOLE), ("BEYOND", c_BEYOND), ("LIGHT", c_LIGHT)]
  blts := ["range", "enumerate", "abs", "int", "max", "isinstance", "tuple", "len", "zip", "bool", "str", "gcd"]
end K69
/-! k69: the program's defs -/
namespace K69
open PD PL
abbrev fns1 : String → Option FnD := fun f => tb.fns.lookup f
/-- light and above 0 -/
def good : D → Bool
  | .tup [.int a, .int b] => isLt (.tup [.int a, .int b]) && decide (0 < a)
  | _ => false
theorem num_pos {q : Rat} : 0 < q.num ↔ 0 < q := by
  have := Rat.lt_iff 0 q
  rw [this]
  show _ ↔ (0 : Int) * (q.den : Int) < q.num * ((1 : Nat) : Int)
  omega
theorem good_frD {q : Rat} (h : good (frD q) = true) : Sz 133 q ∧ 0 < q := by
  have h' : (isLt (frD q) && decide (0 < q.num)) = true := h
  rw [Bool.and_eq_true, decide_eq_true_iff] at h'
  obtain ⟨h1, h2⟩ := h'
  unfold isLt at h1
  rw [isFB_frD, Bool.and_eq_true, decide_eq_true_iff, decide_eq_true_iff] at h1
  have e : (10 ^ 40 : Nat) ≤ 2 ^ 133 := by decide
  refine ⟨⟨?_, ?_⟩, num_pos.mp h2⟩
  · have := h1.1
    split at this <;> omega
  · have := h1.2
    omega
theorem good_of {q : Rat} {k : Nat} (h : Sz k q) (hk : 2 ^ k ≤ 10 ^ 40) (hp : 0 < q) : good (frD q) = true := by
  have e1 := isFB_sz (l := 10 ^ 40) h hk
  have e2 : decide (0 < q.num) = true := decide_eq_true (num_pos.mpr hp)
  show (isFB ((10 ^ 40 : Nat) : Int) (frD q) && decide (0 < q.num)) = true
  rw [e1, e2]
  rfl
variable {C : Nat → CallT} (hC : Calls fns1 C)
variable {j k m : Nat} {p q r s t : Rat} {S : Sto} {Q : QV} {E : QX}
include hC
theorem need_ok {xs : List D} {n : Nat} (hx : ∀ x ∈ xs, Vl n S x) (hq : (∀ x ∈ xs, good x = true) → Q (.tup xs) S) (he : ∀ (i : Nat) (x : D), xs[i]? = some x → good x = false → (∀ (j : Nat) (y : D), j < i → xs[j]? = some y → good y = true) → E "InvalidFraction" [("at", .int (i : Int))] S) :
    C (m + 5) (.d (.fn "need_above_all")) [.d (.tup xs)] S Q E := by
  refine call_fn hC (f := "need_above_all") rfl rfl ?_
  simp only [f_need_above_all]; walk_at "e"
  repeat walk_at "w"
  refine it_tup fun hl => ?_
  refine for_items (fun i e T => T = S ∧ (∃ o1 o2, e = [some (.d (.tup xs)), o1, o2]) ∧ ∀ (j : Nat) (y : D), j < i → xs[j]? = some y → good y = true) ⟨rfl, ⟨none, none, rfl⟩, fun j y h => by omega⟩ (fun _ _ _ _ => trivial) ?_ ?_
  · rintro i d e T ⟨rfl, ⟨o1, o2, rfl⟩, hv⟩ hd
    rw [enum_get] at hd
    obtain ⟨x, hxi, rfl⟩ : ∃ x, xs[i]? = some x ∧ d = .tup [.int ((0 : Nat) + (i : Int)), x] := by
      cases hn : xs[i]? with
      | none => rw [hn] at hd; cases hd
      | some x => rw [hn] at hd; exact ⟨x, rfl, (Option.some.inj hd).symm⟩
    have bad : good x = false → wkX E "InvalidFraction" [("at", .int ((0 : Nat) + (i : Int)))] T := fun hb => ⟨T, .rfl', by
      have := he i x hxi hb hv
      simpa using this⟩
    repeat walk_at "w"
    refine light_vl hC rfl rfl rfl rfl rfl (hx x (List.mem_of_getElem? hxi)) ?_
    repeat walk_at "w"
    refine if_b (fun hlt => ?_) fun hlt => ?_
    · repeat walk_at "w"
      obtain ⟨a, b, rfl⟩ : ∃ a b, x = .tup [.int a, .int b] := by
        unfold isLt isFB at hlt
        split at hlt
        · exact ⟨_, _, rfl⟩
        · cases hlt
      have eg : good (.tup [.int a, .int b]) = decide (0 < a) := by
        show (isLt (.tup [.int a, .int b]) && decide (0 < a)) = _
        rw [hlt, Bool.true_and]
      repeat walk_at "w"
      refine if_dec (fun ha => ?_) fun ha => ?_
      · repeat walk_at "w"
        exact ⟨rfl, bad (by rw [eg]; exact decide_eq_false (by omega))⟩
      · repeat walk_at "w"
        refine ⟨rfl, ⟨_, _, rfl⟩, fun j y hj hy => ?_⟩
        by_cases hji : j = i
        · subst hji
          rw [hxi] at hy
          cases hy
          rw [eg]
          exact decide_eq_true (by omega)
        · exact hv j y (by omega) hy
    · repeat walk_at "w"
      refine ⟨rfl, bad ?_⟩
      unfold good
      split
      · rw [hlt]
        rfl
      · rfl
  · rintro e T ⟨rfl, ⟨o1, o2, rfl⟩, hv⟩
    rw [enum_len] at hv
    repeat walk_at "w"
    exact wk' (hq fun x hx => by
      obtain ⟨i, hi⟩ := List.mem_iff_getElem?.mp hx
      exact hv i x (List.getElem?_eq_some_iff.mp hi).1 hi)
theorem squared_ok (hp : Sz k p) (hk : k ≤ 4000) (h : Q (frD (p * p)) S) : C (m + 3) (.d (.fn "squared")) [.d (frD p)] S Q E := by
  refine call_fn hC (f := "squared") rfl rfl ?_
  simp only [f_squared]; walk_at "e"
  repeat walk_at "w"
  exact multiplied_ok hC rfl rfl hp hp (by omega) (wk' h)
end K69
/-! k69: most_loss, kept_worth, keeper_loss; what the law says of it -/
namespace K69
open PD PL
theorem sz_one : Sz 1 1 := ⟨by decide, by decide⟩
theorem whole_eq : c_WHOLE = frD 1 := rfl
theorem Fsz {a b : Nat} {r s : Rat} (hr : Sz a r) (hs : Sz b s) (r0 : 0 < r) (s0 : 0 < s) : Sz (2 * (a + b + 2) + 2 * (a + b) + 2) (F r s) := by
  obtain ⟨e, n0⟩ := part_F r s r0 s0
  rw [← e]
  have h1 := hs.div hr (ne_of_pos r0)
  have h2 := sz_one.sub h1
  have h3 := h2.mul h2
  have h4 := sz_one.add (h1.mul h1)
  exact (h3.div h4 n0).mono (by omega)
variable {C : Nat → CallT} (hC : Calls fns1 C)
variable {a b c j k m : Nat} {p q r s t : Rat} {S : Sto} {Q : QV} {E : QX}
include hC
theorem part_lost_ok (hr : Sz a r) (hs : Sz b s) (hab : a + b ≤ 1000) (r0 : 0 < r) (s0 : 0 < s) (h : Q (frD (F r s)) S) : C (m + 4) (.d (.fn "part_lost")) [.d (frD r), .d (frD s)] S Q E := by
  obtain ⟨e, n0⟩ := part_F r s r0 s0
  have h1 := hs.div hr (ne_of_pos r0)
  have h2 := sz_one.sub h1
  have h3 := h2.mul h2
  have h4 := sz_one.add (h1.mul h1)
  refine call_fn hC (f := "part_lost") rfl rfl ?_
  simp only [f_part_lost]; walk_at "e"
  repeat walk_at "w"
  refine divided_ok hC rfl rfl hs hr (ne_of_pos r0) (by omega) ?_
  repeat walk_at "w"
  refine lessened_ok hC (p := 1) rfl rfl sz_one h1 (by omega) ?_
  repeat walk_at "w"
  refine squared_ok hC h2 (by omega) ?_
  repeat walk_at "w"
  refine squared_ok hC h1 (by omega) ?_
  repeat walk_at "w"
  refine added_ok hC (p := 1) rfl rfl sz_one (h1.mul h1) (by omega) ?_
  repeat walk_at "w"
  refine divided_ok hC rfl rfl h3 h4 n0 (by omega) ?_
  rw [e]
  exact wk' h
/-- the greater of two losses -/
abbrev most (r l h : Rat) : Rat := if F r l < F r h then F r h else F r l
theorem most_ok {x y z : D} {n : Nat} (hx : ∀ u ∈ [x, y, z], Vl n S u) (hq : ∀ r l h, x = frD r → y = frD l → z = frD h → good x = true → good y = true → good z = true → ¬ h < l → Q (frD (most r l h)) S)
    (hR : ∀ r l h, x = frD r → y = frD l → z = frD h → good x = true → good y = true → good z = true → h < l → E "Refused" [("at", .int (-1))] S)
    (he : ∀ (i : Nat) (u : D), [x, y, z][i]? = some u → good u = false → (∀ (j : Nat) (y' : D), j < i → [x, y, z][j]? = some y' → good y' = true) → E "InvalidFraction" [("at", .int (i : Int))] S) :
    C (m + 6) (.d (.fn "most_loss")) [.d x, .d y, .d z] S Q E := by
  refine call_fn hC (f := "most_loss") rfl rfl ?_
  simp only [f_most_loss]; walk_at "e"
  repeat walk_at "w"
  refine need_ok hC hx (fun hg => ?_) fun i u h1 h2 h3 => ⟨S, .rfl', he i u h1 h2 h3⟩
  have gx := hg x (by simp)
  have gy := hg y (by simp)
  have gz := hg z (by simp)
  have fr : ∀ {u : D}, good u = true → ∃ q, u = frD q := fun {u} h => by
    unfold good at h
    split at h
    · rename_i a b
      rw [Bool.and_eq_true] at h
      have h1 : isFB ((10 ^ 40 : Nat) : Int) (.tup [.int a, .int b]) = true := h.1
      have : (isF (.tup [.int a, .int b]) && _) = true := h1
      rw [Bool.and_eq_true] at this
      exact isF_of this.1
    · cases h
  obtain ⟨r, rfl⟩ := fr gx
  obtain ⟨l, rfl⟩ := fr gy
  obtain ⟨h, rfl⟩ := fr gz
  obtain ⟨sr, r0⟩ := good_frD gx
  obtain ⟨sl, l0⟩ := good_frD gy
  obtain ⟨sh, h0⟩ := good_frD gz
  have f1 := Fsz sr sl r0 l0
  have f2 := Fsz sr sh r0 h0
  repeat walk_at "w"
  refine lesser_ok hC rfl sh sl (by omega) ?_
  refine if_dec (fun hlt => ?_) fun hlt => ?_
  · repeat walk_at "w"
    exact ⟨rfl, S, .rfl', hR r l h rfl rfl rfl gx gy gz hlt⟩
  · repeat walk_at "w"
    refine part_lost_ok hC sr sl (by omega) r0 l0 ?_
    repeat walk_at "w"
    refine part_lost_ok hC sr sh (by omega) r0 h0 ?_
    repeat walk_at "w"
    refine lesser_ok hC rfl f1 f2 (by omega) ?_
    have := hq r l h rfl rfl rfl gx gy gz hlt
    unfold most at this
    refine if_dec (fun hm => ?_) fun hm => ?_
    · rw [if_pos hm] at this
      repeat walk_at "w"
      exact told_frac_ok hC rfl f2 (by omega) (wk' this)
    · rw [if_neg hm] at this
      repeat walk_at "w"
      exact told_frac_ok hC rfl f1 (by omega) (wk' this)
theorem lost_ok (hr : Sz a r) (hs : Sz b s) (hab : a + b ≤ 1000) (r0 : 0 < r) (s0 : 0 < s) (h : Q (frD (F r s)) S) : C (m + 3) (.d (.fn "_law_lost")) [.d (frD r), .d (frD s)] S Q E := by
  obtain ⟨e, n0⟩ := lost_F r s r0 s0
  have h1 := (hs.mul hs).div hr (ne_of_pos r0)
  have h2 := hr.add h1
  have two : Sz 2 2 := ⟨by decide, by decide⟩
  have h3 := two.mul hs
  have h4 := h2.sub h3
  refine call_fn hC (f := "_law_lost") rfl rfl ?_
  simp only [f__law_lost]; walk_at "e"
  repeat walk_at "w"
  refine law_mul_ok hC rfl rfl hs hs (by omega) ?_
  repeat walk_at "w"
  refine law_div_ok hC rfl rfl (hs.mul hs) hr (ne_of_pos r0) (by omega) ?_
  repeat walk_at "w"
  refine law_add_ok hC rfl rfl hr h1 (by omega) ?_
  repeat walk_at "w"
  refine law_mul_ok hC (p := 2) rfl rfl two hs (by omega) ?_
  repeat walk_at "w"
  refine law_sub_ok hC rfl rfl h2 h3 (by omega) ?_
  repeat walk_at "w"
  refine law_div_ok hC rfl rfl h4 h2 n0 (by omega) ?_
  rw [e]
  exact wk' h
/-- what is held of a weight, a rate -/
theorem kept_ok {w r u s : Rat} (gw : good (frD w) = true) (gr : good (frD r) = true) (gu : good (frD u) = true) (gs : good (frD s) = true) (h : Q (frD (w * r * (u * u) + w / r * (s * s))) S) : C (m + 6) (.d (.fn "kept_worth")) [.d (frD w), .d (frD r), .d (frD u), .d (frD s)] S Q E := by
  obtain ⟨sw, w0⟩ := good_frD gw
  obtain ⟨sr, r0⟩ := good_frD gr
  obtain ⟨su, u0⟩ := good_frD gu
  obtain ⟨ss, s0⟩ := good_frD gs
  have k1 := (sw.mul sr).mul (su.mul su)
  have k2 := (sw.div sr (ne_of_pos r0)).mul (ss.mul ss)
  have wb : ∀ {m : Nat} {T : Sto} {Q : QV} {E : QX}, Q (frD (w * r * (u * u) + w / r * (s * s))) T → C (m + 4) (.d (.fn "worth_by")) [.d (.tup [frD (w * r), frD (w / r)]), .d (frD u), .d (frD s)] T Q E := fun {m T Q E} h => by
    refine call_fn hC (f := "worth_by") rfl rfl ?_
    simp only [f_worth_by]; walk_at "e"
    repeat walk_at "w"
    refine squared_ok hC su (by omega) ?_
    repeat walk_at "w"
    refine multiplied_ok hC rfl rfl (sw.mul sr) (su.mul su) (by omega) ?_
    repeat walk_at "w"
    refine squared_ok hC ss (by omega) ?_
    repeat walk_at "w"
    refine multiplied_ok hC rfl rfl (sw.div sr (ne_of_pos r0)) (ss.mul ss) (by omega) ?_
    repeat walk_at "w"
    exact added_ok hC rfl rfl k1 k2 (by omega) (wk' h)
  refine call_fn hC (f := "kept_worth") rfl rfl ?_
  simp only [f_kept_worth]; walk_at "e"
  repeat walk_at "w"
  refine need_ok hC (n := 3) (vls rfl) (fun hg => ?_) fun i x h1 h2 _ => ?_
  · repeat walk_at "w"
    refine call_fn hC (f := "held_of") rfl rfl ?_
    simp only [f_held_of]; walk_at "e"
    repeat walk_at "w"
    refine multiplied_ok hC rfl rfl sw sr (by omega) ?_
    repeat walk_at "w"
    refine divided_ok hC rfl rfl sw sr (ne_of_pos r0) (by omega) ?_
    repeat walk_at "w"
    refine wk' ?_
    repeat walk_at "w"
    refine wb ?_
    repeat walk_at "w"
    exact told_frac_ok hC rfl (k1.add k2) (by omega) (wk' h)
  · have hm := List.mem_of_getElem? h1
    simp at hm
    rcases hm with rfl | rfl | rfl | rfl
    · rw [gw] at h2; cases h2
    · rw [gr] at h2; cases h2
    · rw [gu] at h2; cases h2
    · rw [gs] at h2; cases h2
theorem loss_ok {w r u s : Rat} (gw : good (frD w) = true) (gr : good (frD r) = true) (gu : good (frD u) = true) (gs : good (frD s) = true) (h : Q (frD (w * ((u * r - s) * (u * r - s)) / r)) S) : C (m + 6) (.d (.fn "keeper_loss")) [.d (frD w), .d (frD r), .d (frD u), .d (frD s)] S Q E := by
  obtain ⟨sw, w0⟩ := good_frD gw
  obtain ⟨sr, r0⟩ := good_frD gr
  obtain ⟨su, u0⟩ := good_frD gu
  obtain ⟨ss, s0⟩ := good_frD gs
  have k1 := (su.mul sr).sub ss
  have k2 := sw.mul (k1.mul k1)
  refine call_fn hC (f := "keeper_loss") rfl rfl ?_
  simp only [f_keeper_loss]; walk_at "e"
  repeat walk_at "w"
  refine need_ok hC (n := 3) (vls rfl) (fun hg => ?_) fun i x h1 h2 _ => ?_
  · repeat walk_at "w"
    refine call_fn hC (f := "loss_told") rfl rfl ?_
    simp only [f_loss_told]; walk_at "e"
    repeat walk_at "w"
    refine multiplied_ok hC rfl rfl su sr (by omega) ?_
    repeat walk_at "w"
    refine lessened_ok hC rfl rfl (su.mul sr) ss (by omega) ?_
    repeat walk_at "w"
    refine squared_ok hC k1 (by omega) ?_
    repeat walk_at "w"
    refine multiplied_ok hC rfl rfl sw (k1.mul k1) (by omega) ?_
    repeat walk_at "w"
    refine divided_ok hC rfl rfl k2 sr (ne_of_pos r0) (by omega) ?_
    refine wk' ?_
    repeat walk_at "w"
    exact told_frac_ok hC rfl (k2.div sr (ne_of_pos r0)) (by omega) (wk' h)
  · have hm := List.mem_of_getElem? h1
    simp at hm
    rcases hm with rfl | rfl | rfl | rfl
    · rw [gw] at h2; cases h2
    · rw [gr] at h2; cases h2
    · rw [gu] at h2; cases h2
    · rw [gs] at h2; cases h2
end K69
/-! k69: THE LAW -/
namespace K69
open PD PL
def errT (x : String) (fs : List (String × D)) : Option D := if x = "InvalidFraction" then (match fs.lookup "at" with | some a => some (.tup [.str [102, 114, 97, 99, 116, 105, 111, 110], a]) | none => none)
  else if x = "Refused" then (match fs.lookup "at" with | some a => some (.tup [.str [114, 101, 102, 117, 115, 101, 100], a]) | none => none) else none
variable {C : Nat → CallT} (hC : Calls fns1 C)
include hC
theorem err_ok : ErrF errT C := by
  intro m a S Q E ha hx h
  refine call_fn hC (f := "_law_error") rfl rfl ?_
  simp only [f__law_error]; walk_at "e"
  walk_at "w"
  walk_at "w"
  walk_at "w"
  walk_at "w"
  refine e_cloc rfl ha ?_
  repeat walk_at "w"
  refine hC.mono h (fun d S' q => ?_) fun x fs S' q => ?_
  · repeat walk_at "w"
    exact wk' q
  · obtain ⟨t, ht, q⟩ := q
    unfold errT at ht
    split at ht
    · rename_i hx; subst hx
      split at ht
      · rename_i a' g1
        cases ht
        refine h_hit rfl ?_
        simp only [List.set_cons_zero, List.set_cons_succ]
        repeat walk_at "w"
        refine e_efld rfl g1 ?_
        repeat walk_at "w"
        exact wk' q
      · cases ht
    · split at ht
      · rename_i hx; subst hx
        split at ht
        · rename_i a' g1
          cases ht
          refine h_miss rfl (h_hit rfl ?_)
          simp only [List.set_cons_zero, List.set_cons_succ]
          repeat walk_at "w"
          refine e_efld rfl g1 ?_
          repeat walk_at "w"
          exact wk' q
        · cases ht
      · cases ht
theorem drawn_ok {m a : Nat} {n : Int} {S : Sto} {Q : QV} {E : QX} {ps : List Nat} (hb : Box ps S a) (h0 : 0 < n) (h1 : n ≤ 10 ^ 20) (k : ∀ (q : Rat) S', 0 < q → Sz 67 q → Box ps S' a → Fr a S S' → Q (frD q) S') (e : Env) (g0 : e[0]? = some (some (.d (.ref a)))) (g1 : e[1]? = some (some (.d (.int n)))) :
    wpE (C (m + 1)) (.call "_law_fr" [.bin .add (.int 1) (.call "_law_take" [.av 0, .av 1] [] []), .bin .add (.int 1) (.call "_law_take" [.av 0, .av 1] [] [])] [] []) e S Q E := by
  have hn : n.natAbs < 2 ^ 9000 := Nat.lt_of_le_of_lt (show n.natAbs ≤ 10 ^ 20 by omega) (by decide)
  have tk : ∀ {T : Sto} {Q : QV} {E : QX}, Box ps T a → (∀ v T', 0 ≤ v → v < n → Box ps T' a → Fr a T T' → Q (.int (1 + v)) T') → wpE (C (m + 1)) (.bin .add (.int 1) (.call "_law_take" [.av 0, .av 1] [] [])) e T Q E := fun {T Q E} hb k => by
    walk_at "w"
    walk_at "w"
    walk_at "w"
    refine a_av g0 trivial (a_av g1 trivial ?_)
    repeat walk_at "w"
    refine take_ok hC rfl hb h0 hn fun v T' v0 v1 hb' hf => ?_
    repeat walk_at "w"
    exact k v T' v0 v1 hb' hf
  walk_at "w"
  refine a_cons rfl (tk hb fun v T v0 v1 hb1 f1 => ?_)
  refine a_cons rfl (tk hb1 fun w U w0 w1 hb2 f2 => ?_)
  walk_at "w"
  have hl : (1 + w : Int) ≠ 0 := by omega
  have e67 : (10 ^ 20 : Int) < 2 ^ 67 := by decide
  refine law_fr_ok hC rfl hl (Nat.lt_of_le_of_lt (show (1 + w).natAbs ≤ 10 ^ 20 by omega) (by decide)) ?_
  refine k _ U ?_ (divInt_sz hl (by omega) (by omega)) hb2 (f1.trans f2)
  rw [← num_pos, ← fr_num hl, if_neg (by omega)]
  have hg := gcd_pos (u := 1 + v) hl
  obtain ⟨c, hc⟩ := Int.gcd_dvd_left (1 + v) (1 + w)
  rw [Int.fdiv_eq_ediv_of_dvd ⟨c, hc⟩]
  exact Int.ediv_pos_of_pos_of_dvd (by omega) (by omega) ⟨c, hc⟩
theorem same_ok {m : Nat} {r l h : Rat} {S : Sto} {Q : QV} {E : QX} (gr : good (frD r) = true) (gl : good (frD l) = true) (gh : good (frD h) = true) (hlt : ¬ h < l) (k : Q (frD (most r l h)) S) : C (m + 6) (.d (.fn "most_loss")) [.d (frD r), .d (frD l), .d (frD h)] S Q E := by
  refine most_ok hC (n := 3) (vls rfl) (fun r' l' h' e1 e2 e3 _ _ _ _ => ?_) (fun r' l' h' e1 e2 e3 _ _ _ hl => ?_) fun i u h1 h2 _ => ?_
  · rw [← frD_inj e1, ← frD_inj e2, ← frD_inj e3]
    exact k
  · rw [frD_inj e2, frD_inj e3] at hlt
    exact absurd hl hlt
  · have hm := List.mem_of_getElem? h1
    simp at hm
    rcases hm with rfl | rfl | rfl
    · rw [gr] at h2; cases h2
    · rw [gl] at h2; cases h2
    · rw [gh] at h2; cases h2
theorem ref_ok {m : Nat} {r l h : Rat} {S : Sto} {Q : QV} {E : QX} (gr : good (frD r) = true) (gl : good (frD l) = true) (gh : good (frD h) = true) (hlt : h < l) (k : E "Refused" [("at", .int (-1))] S) : C (m + 6) (.d (.fn "most_loss")) [.d (frD r), .d (frD l), .d (frD h)] S Q E := by
  refine most_ok hC (n := 3) (vls rfl) (fun r' l' h' e1 e2 e3 _ _ _ hn => ?_) (fun r' l' h' e1 e2 e3 _ _ _ hl => k) fun i u h1 h2 _ => ?_
  · rw [← frD_inj e2, ← frD_inj e3] at hn
    exact absurd hlt hn
  · have hm := List.mem_of_getElem? h1
    simp at hm
    rcases hm with rfl | rfl | rfl
    · rw [gr] at h2; cases h2
    · rw [gl] at h2; cases h2
    · rw [gh] at h2; cases h2
end K69
/-! k69: one round -/
namespace K69
open PD PL
theorem good67 {q : Rat} (h : Sz 67 q) (h0 : 0 < q) : good (frD q) = true := good_of h (by decide) h0
/-- the turns of the last loop -/
def parts : List Rat := [0, 1/3, 1/2, 9/10, 1]
theorem parts_ok {p : Rat} (h : p ∈ parts) : 0 ≤ p ∧ p ≤ 1 ∧ Sz 4 p := by
  simp [parts] at h
  rcases h with rfl | rfl | rfl | rfl | rfl <;> exact ⟨by decide +kernel, by decide +kernel, by decide +kernel, by decide +kernel⟩
theorem parts_D : parts.map frD = [.tup [.int 0, .int 1], .tup [.int 1, .int 3], .tup [.int 1, .int 2], .tup [.int 9, .int 10], .tup [.int 1, .int 1]] := by
  have : ∀ {q : Rat} {a b : Int}, q.num = a → (q.den : Int) = b → frD q = .tup [.int a, .int b] := fun {q a b} h1 h2 => by
    show D.tup [.int q.num, .int q.den] = _
    rw [h1, h2]
  simp only [parts, List.map_cons, List.map_nil]
  rw [this (q := 0) (a := 0) (b := 1) (by decide +kernel) (by decide +kernel), this (q := 1/3) (a := 1) (b := 3) (by decide +kernel) (by decide +kernel), this (q := 1/2) (a := 1) (b := 2) (by decide +kernel) (by decide +kernel), this (q := 9/10) (a := 9) (b := 10) (by decide +kernel) (by decide +kernel), this (q := 1) (a := 1) (b := 1) (by decide +kernel) (by decide +kernel)]
theorem good_max {q : Rat} (h0 : 0 < q) (h : List.foldl max q.num ([(q.den : Int)]) < ((10 ^ 40 : Nat) : Int)) : good (frD q) = true := by
  have h' : max q.num (q.den : Int) < ((10 ^ 40 : Nat) : Int) := h
  have hp := num_pos.mpr h0
  show (isFB ((10 ^ 40 : Nat) : Int) (frD q) && decide (0 < q.num)) = true
  rw [isFB_frD, decide_eq_true hp, if_neg (by omega), decide_eq_true (by omega), decide_eq_true (by omega)]
  rfl
theorem between {l t p : Rat} (hl : 0 < l) (h : ¬ t < l) (h0 : 0 ≤ p) (h1 : p ≤ 1) : l ≤ l + p * (t - l) ∧ l + p * (t - l) ≤ t ∧ 0 < l + p * (t - l) := by
  have a := Rat.mul_nonneg (a := p) (b := t - l) h0 (by grind)
  have b := Rat.mul_nonneg (a := 1 - p) (b := t - l) (by grind) (by grind)
  refine ⟨by grind, by grind, by grind⟩
theorem most_ge {r l t s : Rat} (hr : 0 < r) (hl : 0 < l) (h1 : l ≤ s) (h2 : s ≤ t) : ¬ most r l t < F r s := by
  have := quasi hr hl h1 h2
  unfold most
  split <;> grind
variable {C : Nat → CallT} (hC : Calls fns1 C)
include hC
theorem rest2 {m a : Nat} {n : Int} {r l t : Rat} {T : Sto} {Q : QV} {E : QX} {o4 o5 : Option AV} (hb : Box [] T a) (r0 : 0 < r) (l0 : 0 < l) (t0 : 0 < t) (sr : Sz 67 r) (sl : Sz 67 l) (st : Sz 67 t) (hlt : ¬ t < l) (k : ∀ S', Box [] S' a → Q (.bl true) S') :
    wpB (C (m + 11)) (f__law_one.body.drop 4) ⟨fun _ S => wkQ Q .non S, wkQ Q, fun _ _ => False, fun _ _ => False, fun x fs _ S => wkX E x fs S⟩
      [some (.d (.ref a)), some (.d (.int n)), none, some (.d (frD r)), o4, o5, some (.d (frD l)), some (.d (frD t)), none, none, none, none, none] T := by
  have gr := good67 sr r0
  have gl := good67 sl l0
  have gt := good67 st t0
  have f1 := Fsz sr sl r0 l0
  have f2 := Fsz sr st r0 t0
  have du : most r l t < 1 := by unfold most; split <;> exact F_lt r0 (by assumption)
  have sdu : Sz 542 (most r l t) := by unfold most; split <;> exact Sz.mono (by assumption) (by omega)
  simp only [f__law_one, List.drop_succ_cons, List.drop_zero]
  walk_at "v"
  walk_at "v"
  walk_at "v"
  repeat walk_at "v"
  refine lost_ok hC sr sl (by omega) r0 l0 ?_
  repeat walk_at "v"
  refine lost_ok hC sr st (by omega) r0 t0 ?_
  repeat walk_at "v"
  intro p U hp fU hU
  repeat walk_at "v"
  refine law_lt_ok hC rfl f1 f2 (by omega) ?_
  have fin : ∀ {U : Sto}, Box [] U a → ∀ {o8 : Option AV}, wpB (C (m + 11)) (f__law_one.body.drop 6) ⟨fun _ S => wkQ Q .non S, wkQ Q, fun _ _ => False, fun _ _ => False, fun x fs _ S => wkX E x fs S⟩
      [some (.d (.ref a)), some (.d (.int n)), none, some (.d (frD r)), o4, o5, some (.d (frD l)), some (.d (frD t)), o8, some (.d (frD (most r l t))), none, none, none] U := fun {U} hb {o8} => by
    simp only [f__law_one, List.drop_succ_cons, List.drop_zero]
    repeat walk_at "v"
    refine same_ok hC gr gl gt hlt ?_
    repeat walk_at "v"
    refine same_ok hC gr gl gt hlt ?_
    repeat walk_at "v"
    refine is_same hC rfl 3 rfl ?_
    repeat walk_at "v"
    refine law_lt_ok hC (q := 1) rfl sdu sz_one (by omega) ?_
    rw [decide_eq_true du]
    repeat walk_at "v"
    intro p U2 hp2 fU2 hU2
    refine it_lst hU2 fun _ => ?_
    refine for_items (fun i e V => ∃ o10 o11 o12, e = [some (.d (.ref a)), some (.d (.int n)), none, some (.d (frD r)), o4, o5, some (.d (frD l)), some (.d (frD t)), o8, some (.d (frD (most r l t))), o10, o11, o12] ∧ Sub U2 V) ⟨_, _, _, rfl, .rfl'⟩ ?_ ?_ ?_
    · rintro i e V ⟨o10, o11, o12, _, hs⟩
      show V p = U2 p
      rw [hU2, hs _ _ hU2]
    · rintro i d e V ⟨o10, o11, o12, rfl, hs⟩ hd
      obtain ⟨q, hq, rfl⟩ : ∃ q, q ∈ parts ∧ d = frD q := by
        rw [← parts_D] at hd
        have := List.mem_of_getElem? hd
        obtain ⟨q, h1, h2⟩ := List.mem_map.mp this
        exact ⟨q, h1, h2.symm⟩
      clear hd
      obtain ⟨q0, q1, sq⟩ := parts_ok hq
      obtain ⟨b1, b2, b3⟩ := between l0 hlt q0 q1
      have s1 := st.sub sl
      have s2 := sq.mul s1
      have s3 := sl.add s2
      repeat walk_at "v"
      refine law_sub_ok hC rfl rfl st sl (by omega) ?_
      repeat walk_at "v"
      refine law_mul_ok hC rfl rfl sq s1 (by omega) ?_
      repeat walk_at "v"
      refine law_add_ok hC rfl rfl sl s2 (by omega) ?_
      generalize hs' : l + q * (t - l) = s at *
      repeat walk_at "v"
      refine u_max (ns := [_]) rfl (fun _ z => by cases z) ?_
      repeat walk_at "v"
      refine if_dec (fun hm => ?_) fun hm => ?_
      · have gs := good_max b3 hm
        obtain ⟨ss, _⟩ := good_frD gs
        have w37 : D.tup [.int 3, .int 7] = frD (3/7) := by
          show _ = D.tup [.int (3/7 : Rat).num, .int ((3/7 : Rat).den : Int)]
          rw [show (3/7 : Rat).num = 3 by decide +kernel, show (3/7 : Rat).den = 7 by decide +kernel]
          rfl
        have g37 : good (frD (3/7)) = true := by rw [← w37]; decide +kernel
        have g1 : good (frD 1) = true := by decide +kernel
        have p37 : (0 : Rat) < 3/7 := by decide +kernel
        have sz37 : Sz 3 (3/7) := ⟨by decide +kernel, by decide +kernel⟩
        obtain ⟨e1, e2⟩ := kept_F (3/7) r s p37 r0 b3
        have z1 := (sz_one.mul sr).sub ss
        have z2 := (sz37.mul (z1.mul z1)).div sr (ne_of_pos r0)
        have z3 := ((sz37.mul sr).mul (sz_one.mul sz_one)).add ((sz37.div sr (ne_of_pos r0)).mul (ss.mul ss))
        have fs := Fsz sr ss r0 b3
        repeat walk_at "v"
        rw [w37]
        refine loss_ok hC (u := 1) g37 gr g1 gs ?_
        repeat walk_at "v"
        rw [w37]
        refine kept_ok hC (u := 1) g37 gr g1 gs ?_
        repeat walk_at "v"
        refine law_div_ok hC rfl rfl z2 z3 e2 (by omega) ?_
        rw [e1]
        repeat walk_at "v"
        refine lost_ok hC sr ss (by omega) r0 b3 ?_
        refine c_net rfl rfl ?_
        rw [show eqds [.int (F r s).num, .int ((F r s).den : Int)] [.int (F r s).num, .int ((F r s).den : Int)] = true by simp [eqds, eqd]]
        repeat walk_at "v"
        refine law_lt_ok hC rfl sdu fs (by omega) ?_
        rw [decide_eq_false (most_ge r0 l0 b1 b2)]
        repeat walk_at "v"
        exact ⟨_, _, _, rfl, hs⟩
      · repeat walk_at "v"
        exact ⟨_, _, _, rfl, hs⟩
    · rintro e V ⟨o10, o11, o12, rfl, hs⟩
      have hbV := (hb.mono fU2).mono hs
      repeat walk_at "v"
      refine law_lt_ok hC rfl sl st (by omega) ?_
      have last : ∀ {V : Sto}, Box [] V a → wpB (C (m + 11)) (f__law_one.body.drop 9) ⟨fun _ S => wkQ Q .non S, wkQ Q, fun _ _ => False, fun _ _ => False, fun x fs _ S => wkX E x fs S⟩
          [some (.d (.ref a)), some (.d (.int n)), none, some (.d (frD r)), o4, o5, some (.d (frD l)), some (.d (frD t)), o8, some (.d (frD (most r l t))), o10, o11, o12] V := fun {V} hb => by
        simp only [f__law_one, List.drop_succ_cons, List.drop_zero]
        repeat walk_at "v"
        refine same_ok hC gr gr gr Rat.lt_irrefl ?_
        have e0 : most r r r = 0 := by
          unfold most
          rw [F_self r0, if_neg Rat.lt_irrefl]
        rw [e0, show frD 0 = .tup [.int 0, .int 1] from rfl]
        repeat walk_at "v"
        refine is_same hC rfl 3 rfl ?_
        exact ⟨_, .rfl', k _ hb⟩
      refine if_dec (fun hlt' => ?_) fun _ => ?_
      · repeat walk_at "v"
        refine err_ok hC trivial trivial ?_
        refine call_lam hC (Nat.le_refl _) (Nat.le_refl _) ?_
        walk_at "e"
        repeat walk_at "v"
        refine ref_ok hC gr gt gl hlt' ?_
        refine ⟨V, .rfl', _, rfl, ?_⟩
        repeat walk_at "v"
        refine is_same hC rfl 3 rfl ?_
        walk_at "v"
        walk_at "v"
        walk_at "v"
        exact last hbV
      · walk_at "v"
        exact last hbV
  refine if_dec (fun hm => ?_) fun hm => ?_
  · have hdu : most r l t = F r t := if_pos hm
    rw [hdu] at fin
    walk_at "v"
    walk_at "v"
    walk_at "v"
    walk_at "v"
    walk_at "v"
    exact fin (hb.mono fU)
  · have hdu : most r l t = F r l := if_neg hm
    rw [hdu] at fin
    walk_at "v"
    walk_at "v"
    walk_at "v"
    walk_at "v"
    walk_at "v"
    exact fin (hb.mono fU)
theorem rest1 {m a : Nat} {n : Int} {r o1 o2 : Rat} {T : Sto} {Q : QV} {E : QX} (hb : Box [] T a) (r0 : 0 < r) (o10 : 0 < o1) (o20 : 0 < o2) (sr : Sz 67 r) (so1 : Sz 67 o1) (so2 : Sz 67 o2) (k : ∀ S', Box [] S' a → Q (.bl true) S') :
    wpB (C (m + 11)) (f__law_one.body.drop 3) ⟨fun _ S => wkQ Q .non S, wkQ Q, fun _ _ => False, fun _ _ => False, fun x fs _ S => wkX E x fs S⟩
      [some (.d (.ref a)), some (.d (.int n)), none, some (.d (frD r)), some (.d (frD o1)), some (.d (frD o2)), none, none, none, none, none, none, none] T := by
  have t2 := fun {l t : Rat} {o4 o5 : Option AV} (l0 : 0 < l) (t0 : 0 < t) (sl : Sz 67 l) (st : Sz 67 t) (hlt : ¬ t < l) => rest2 (n := n) (m := m) (E := E) (o4 := o4) (o5 := o5) hC hb r0 l0 t0 sr sl st hlt k
  simp only [f__law_one, List.drop_succ_cons, List.drop_zero] at t2 ⊢
  repeat walk_at "v"
  refine law_lt_ok hC rfl so2 so1 (by omega) ?_
  refine if_dec (fun hlt => ?_) fun hlt => ?_
  · have := t2 (o4 := some (.d (frD o1))) (o5 := some (.d (frD o2))) o20 o10 so2 so1 (fun h => by grind)
    repeat (first | exact this | walk_at "v")
  · have := t2 (o4 := some (.d (frD o1))) (o5 := some (.d (frD o2))) o10 o20 so1 so2 hlt
    repeat (first | exact this | walk_at "v")
theorem one_ok {m a : Nat} {S : Sto} {Q : QV} {E : QX} (hb : Box [] S a) (k : ∀ S', Box [] S' a → Q (.bl true) S') : C (m + 12) (.d (.fn "_law_one")) [.d (.ref a)] S Q E := by
  refine call_fn hC (f := "_law_one") rfl rfl ?_
  simp only [f__law_one]; walk_at "e"
  repeat walk_at "v"
  intro p S1 hp f1 h1
  repeat walk_at "v"
  refine pick_ok hC rfl rfl (hb.mono f1) h1 (hb.ne hp) (by simp) fun d S2 hd hb2 f2 => ?_
  obtain ⟨n, n0, n1, rfl⟩ : ∃ n : Int, 0 < n ∧ n ≤ 10 ^ 20 ∧ d = .int n := by
    simp at hd
    rcases hd with rfl | rfl | rfl
    · exact ⟨9, by omega, by decide, rfl⟩
    · exact ⟨10 ^ 6, by decide, by decide, rfl⟩
    · exact ⟨10 ^ 20, by decide, by decide, rfl⟩
  repeat walk_at "v"
  walk_at "c"
  refine comp_by (fun c i acc T => T c = some (.lst acc) ∧ (∃ qs : List Rat, acc = qs.map frD ∧ qs.length = i ∧ ∀ q ∈ qs, 0 < q ∧ Sz 67 q) ∧ Box [c] T a) (by rw [rng_len]; decide) ?_ (fun r i acc T hr w => ⟨w.1, trivial⟩) ?_ ?_
  · exact fun c hc => ⟨sup_get, ⟨[], rfl, rfl, by simp⟩, hb2.add hc (.new hc) sup_get⟩
  · rintro c i acc T d hc ⟨w1, ⟨qs, rfl, w3, w4⟩, w5⟩ hd
    obtain ⟨rfl, hi⟩ := rng_get hd
    clear hd
    have hca := hb2.ne hc
    walk_at "w"
    walk_at "w"
    walk_at "w"
    refine drawn_ok hC w5 n0 n1 (fun q T' q0 q67 hb' fr' => ?_) _ rfl rfl
    refine ⟨fr' _ _ hca w1, sup_get, ⟨qs ++ [q], by simp, by simp [w3], fun x hx => ?_⟩, hb'.put List.mem_cons_self⟩
    rcases List.mem_append.mp hx with hx | hx
    · exact w4 x hx
    · rw [List.mem_singleton.mp hx]
      exact ⟨q0, q67⟩
  · rintro c acc T hc ⟨w1, ⟨qs, rfl, w3, w4⟩, w5⟩
    rw [rng_len] at w3
    match qs, w3 with
    | [r, o1, o2], _ =>
    obtain ⟨r0, sr⟩ := w4 r (by simp)
    obtain ⟨o10, so1⟩ := w4 o1 (by simp)
    obtain ⟨o20, so2⟩ := w4 o2 (by simp)
    have gr := good67 sr r0
    replace w1 : T c = some (.lst [frD r, frD o1, frD o2]) := w1
    have hb3 : Box [] T a := w5.less (by simp)
    clear w4 w5
    repeat walk_at "v"
    refine take_ok hC rfl hb3 (by omega) (by decide) fun v T2 v0 v1 hb4 f4 => ?_
    repeat walk_at "v"
    refine if_dec (fun _ => ?_) fun _ => ?_
    · walk_at "v"
      walk_at "v"
      walk_at "v"
      walk_at "v"
      walk_at "v"
      exact rest1 hC hb4 r0 r0 o20 sr sr so2 k
    · exact rest1 hC hb4 r0 o10 o20 sr so1 so2 k
end K69
/-! k69: THE LAW -/
namespace K69
open PD PL
theorem bads_ok {S : Sto} {q : Nat} (hq : S q = some (.lst [.int 1, .int 2])) : ∀ d ∈ [D.non, .int 1, .tup [.int 0, .int 1], .tup [.int (-1), .int 2], .tup [.int 2, .int 4], .tup [.int 1, .int 0], .ref q, .tup [.bl true, .int 1], .tup [.int (10 ^ (40 : Int).toNat), .int 1], .tup [.int 1, .int (10 ^ (40 : Int).toNat)]], Vl 3 S d ∧ good d = false := by
  simp only [List.forall_mem_cons]
  refine ⟨⟨.inl rfl, rfl⟩, ⟨.inl rfl, rfl⟩, ⟨.inl rfl, by decide +kernel⟩, ⟨.inl rfl, by decide +kernel⟩, ⟨.inl rfl, by decide +kernel⟩, ⟨.inl rfl, by decide +kernel⟩, ⟨vl_lst hq, rfl⟩, ⟨.inl rfl, rfl⟩, ⟨.inl rfl, by decide +kernel⟩, ⟨.inl rfl, by decide +kernel⟩, fun d hd => by cases hd⟩
variable {C : Nat → CallT} (hC : Calls fns1 C)
include hC
theorem bad_ok {m n : Nat} {x y z u : D} {S : Sto} {Q : QV} {E : QX} (hx : ∀ u ∈ [x, y, z], Vl n S u) (i : Nat) (h1 : [x, y, z][i]? = some u) (h2 : good u = false) (h3 : ∀ (j : Nat) (v : D), j < i → [x, y, z][j]? = some v → good v = true) (k : E "InvalidFraction" [("at", .int (i : Int))] S) : C (m + 6) (.d (.fn "most_loss")) [.d x, .d y, .d z] S Q E := by
  have no : good x = true → good y = true → good z = true → False := fun gx gy gz => by
    have hm := List.mem_of_getElem? h1
    simp at hm
    rcases hm with rfl | rfl | rfl
    · rw [gx] at h2; cases h2
    · rw [gy] at h2; cases h2
    · rw [gz] at h2; cases h2
  refine most_ok hC hx (fun _ _ _ _ _ _ gx gy gz _ => (no gx gy gz).elim) (fun _ _ _ _ _ _ gx gy gz _ => (no gx gy gz).elim) fun j v g1 g2 g3 => ?_
  rcases Nat.lt_trichotomy i j with h | h | h
  · have := g3 i u h h1
    rw [this] at h2; cases h2
  · rw [← h]
    exact k
  · have := h3 j v h g1
    rw [this] at g2; cases g2
omit hC in
theorem law_ok : LawP fns1 40 := by
  intro C hC ns hns _ x S hx
  have hz := script_cut (b := 63) (by decide) hns hx
  refine call_fn hC (f := "law") rfl rfl ?_
  simp only [f_law]; walk_at "e"
  repeat walk_at "v"
  refine box_ok hC (by decide) rfl hns hz fun a S1 _ hb _ => ?_
  repeat walk_at "v"
  refine for_items (fun i e T => ∃ o2, e = [some (.d x), some (.d (.ref a)), o2, none, none, none] ∧ Box [] T a) ⟨_, rfl, hb⟩ (fun _ _ _ _ => trivial) ?_ ?_
  · rintro i d e T ⟨o2, rfl, hb⟩ hd
    repeat walk_at "v"
    refine one_ok hC hb fun T1 hb1 => ?_
    repeat walk_at "v"
    exact ⟨_, rfl, hb1⟩
  · rintro e T ⟨o2, rfl, hb⟩
    clear hb
    repeat walk_at "v"
    intro q U hq fU hU
    repeat walk_at "v"
    intro p V hp fV hV
    repeat walk_at "v"
    have bd : ∀ {W : Sto}, Sub V W → ∀ d, d ∈ _ → Vl 3 W d ∧ good d = false := fun {W} hs => bads_ok (hs _ _ (fV _ _ hU))
    refine all_ok hC rfl rfl (err_ok hC) trivial trivial (.inr ⟨_, _, _, _, _, rfl⟩) hV rfl (fun d hd => ?_) ?_
    · intro S' Q E hs hE
      obtain ⟨d1, d2⟩ := bd hs d hd
      refine call_lam hC (Nat.le_refl _) (Nat.le_refl _) ?_
      walk_at "e"
      repeat walk_at "v"
      refine bad_ok hC (n := 3) ?_ 0 rfl d2 (fun j v hj => by omega) ⟨S', .rfl', hE _ _ rfl⟩
      simp only [List.forall_mem_cons]
      exact ⟨d1, .inl rfl, .inl rfl, fun _ h => by cases h⟩
    repeat walk_at "v"
    refine all_ok hC rfl rfl (err_ok hC) trivial trivial (.inr ⟨_, _, _, _, _, rfl⟩) hV rfl (fun d hd => ?_) ?_
    · intro S' Q E hs hE
      obtain ⟨d1, d2⟩ := bd hs d hd
      refine call_lam hC (Nat.le_refl _) (Nat.le_refl _) ?_
      walk_at "e"
      repeat walk_at "v"
      refine bad_ok hC (n := 3) ?_ 1 rfl d2 (fun j v hj hv => ?_) ⟨S', .rfl', hE _ _ rfl⟩
      · simp only [List.forall_mem_cons]
        exact ⟨.inl rfl, d1, .inl rfl, fun _ h => by cases h⟩
      · obtain rfl : j = 0 := by omega
        cases hv
        decide +kernel
    repeat walk_at "v"
    refine all_ok hC rfl rfl (err_ok hC) trivial trivial (.inr ⟨_, _, _, _, _, rfl⟩) hV rfl (fun d hd => ?_) ?_
    · intro S' Q E hs hE
      obtain ⟨d1, d2⟩ := bd hs d hd
      refine call_lam hC (Nat.le_refl _) (Nat.le_refl _) ?_
      walk_at "e"
      repeat walk_at "v"
      refine bad_ok hC (n := 3) ?_ 2 rfl d2 (fun j v hj hv => ?_) ⟨S', .rfl', hE _ _ rfl⟩
      · simp only [List.forall_mem_cons]
        exact ⟨.inl rfl, .inl rfl, d1, fun _ h => by cases h⟩
      · obtain rfl | rfl : j = 0 ∨ j = 1 := by omega
        · cases hv
          decide +kernel
        · cases hv
          decide +kernel
    repeat walk_at "v"
    refine same_ok hC (r := ⟨1, 1, by decide, by decide⟩) (l := ⟨1, 2, by decide, by decide⟩) (h := ⟨2, 1, by decide, by decide⟩) (by decide +kernel) (by decide +kernel) (by decide +kernel) (by decide +kernel) ?_
    repeat walk_at "v"
    refine same_ok hC (r := ⟨1, 1, by decide, by decide⟩) (l := ⟨1, 2, by decide, by decide⟩) (h := ⟨1, 1, by decide, by decide⟩) (by decide +kernel) (by decide +kernel) (by decide +kernel) (by decide +kernel) ?_
    repeat walk_at "v"
    refine same_ok hC (r := ⟨2, 1, by decide, by decide⟩) (l := ⟨2, 1, by decide, by decide⟩) (h := ⟨6, 1, by decide, by decide⟩) (by decide +kernel) (by decide +kernel) (by decide +kernel) (by decide +kernel) ?_
    repeat walk_at "v"
    refine same_ok hC (r := ⟨1, 1, by decide, by decide⟩) (l := ⟨1, 10 ^ 30, by decide +kernel, by decide +kernel⟩) (h := ⟨1, 1, by decide, by decide⟩) (by decide +kernel) (by decide +kernel) (by decide +kernel) (by decide +kernel) ?_
    have m1 : mulOk (10 ^ Int.toNat 30 - 1) (10 ^ Int.toNat 30 - 1) := mul_ok (m := 100) (n := 100) (by decide +kernel) (by decide +kernel) (by omega)
    have m2 : mulOk (10 ^ Int.toNat 30) (10 ^ Int.toNat 30) := mul_ok (m := 100) (n := 100) (by decide +kernel) (by decide +kernel) (by omega)
    repeat walk_at "v"
    refine law_fr_ok hC rfl ?_ ?_ ?_
    · decide +kernel
    · decide +kernel
    repeat walk_at "v"
    refine is_ok hC rfl 4 rfl rfl ?_
    rw [show isB _ _ = true from by decide +kernel]
    exact wk' rfl
end K69
open PySem PySem.W PyProof.Rows
set_option maxHeartbeats 0 in
theorem PySem.Challenge.cw_onepool_k69_whole_the_most_a_keeper_lose_holds : PySem.Challenge.rw_onepool_k69_whole_the_most_a_keeper_lose.Holds := by
  w_on; o_law; k_head; (case hw => w_witness2)
  k_fill
  refine PS.law_end (l := PySem.Challenge.rw_onepool_k69_whole_the_most_a_keeper_lose) K69.tb 40 K69.f_law rfl rfl rfl rfl rfl ⟨rfl, by decide, by decide⟩ (fun p => ?_) K69.law_ok
  kernel_rfl
