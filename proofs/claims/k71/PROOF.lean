import PyProof.Rows.All
import HandS.ForMost
import PyProof.EqLayable
import PyProof.ReprReads
import KE.KDictDisplayH
import KE.SortData
import HandS.ForExc
import HandS.Deep
import HandS.TupAny
import HandS.TupMul
import HandS.SortInts
import HandS.IsInst
import KE.DatumIndex
import HandS.Dict
import HandS.Flow
import HandS.SetFor
import HandS.Strs
import HandS.Comp
import HandS.Zip
import HandS.Iter
import HandS.TryOnly
import HandS.ExcOwn
import HandS.Defaults
import HandS.Ends
import HandS.HeadHook1
import HandS.HeadHook2
import PyProof.ReprLen
import HandS.Head0
import HandS.Head1
import HandS.Head2
import HandS.HeadEnd
import PySem.Challenge.RW_stridekinds_k71_whole_shares_of_round_wa
set_option Elab.async false
set_option linter.all false
/-! Plain data, own syntax, and the evaluator. -/
namespace Ev
open PySem L2

/-! ### data -/
inductive D where
  | non | bl (b : Bool) | int (i : Int) | str (s : Str) | tup (l : List D) | lst (l : List D) | fn (f : Nat)
  | dct (l : List (Key × D))
  /-- a list that is read alone (the script) -/
  | scr (l : List D)
  /-- a dict whose keys are tuples -/
  | dic (l : List (NestedKey × D))
  deriving Inhabited

mutual
def toPy : D → Option PyData
  | .non => some .none
  | .bl b => some (.bool b)
  | .int i => some (.int i)
  | .str s => some (.str s)
  | .tup l => (toPyL l).map .tuple
  | .lst l => (toPyL l).map .list
  | .fn _ => none
  | .dct _ => none
  | .scr _ => none
  | .dic _ => none
def toPyL : List D → Option (List PyData)
  | [] => some []
  | d :: r => match toPy d with
    | some x => (toPyL r).map (x :: ·)
    | none => none
end
mutual
def ofPy : PyData → D
  | .none => .non
  | .bool b => .bl b
  | .int i => .int i
  | .str s => .str s
  | .tuple l => .tup (ofPyL l)
  | .list l => .lst (ofPyL l)
  | .dict _ => .non
def ofPyL : List PyData → List D
  | [] => []
  | d :: r => ofPy d :: ofPyL r
end

/-- what a list or dict holds that is not shared -/
inductive Ob where
  | lst (l : List D) | dct (l : List (Key × D)) | dic (l : List (NestedKey × D))
  deriving Inhabited
def Ob.toD : Ob → D
  | .lst l => .lst l
  | .dct l => .dct l
  | .dic l => .dic l
/-- a slot: not set; a value; an own object (b: handed in by the caller) -/
inductive Sl where
  | un | v (d : D) | ow (b : Bool) (o : Ob)
  deriving Inhabited
abbrev Env := List Sl
/-- an expression's result: a value; a new object; the own object of a slot -/
inductive R where
  | v (d : D) | fr (o : Ob) | ow (i : Nat)
  deriving Inhabited
/-- a builtin's result -/
inductive PR where
  | v (d : D) | fr (o : Ob)
  deriving Inhabited
def PR.r : PR → R
  | .v d => .v d
  | .fr o => .fr o
/-- an exception: its class's number, its attribute -/
structure Ex where
  cls : Nat
  arg : D := .non
  deriving Inhabited
inductive O (α : Type) where
  | ok (a : α) (env : Env) | ex (x : Ex) (env : Env)
  deriving Inhabited
abbrev M (α : Type) := Env → Option (O α)
@[inline] def ret {α : Type} (a : α) : M α := fun env => some (.ok a env)
@[inline] def bnd {α β : Type} (m : M α) (f : α → M β) : M β := fun env => match m env with
  | none => none
  | some (.ex x e) => some (.ex x e)
  | some (.ok a e) => f a e
@[inline] def stuck {α : Type} : M α := fun _ => none
@[inline] def lft {α : Type} (o : Option α) : M α := fun env => match o with
  | some a => some (.ok a env)
  | none => none

/-! ### the syntax -/
inductive Bi where
  | len | abs | int | str | repr | tuple | list | sorted | sum | min | max | any | all
  deriving DecidableEq, Inhabited, Repr
/-- methods that change nothing -/
inductive Bm where
  | lindex | lcount
  deriving DecidableEq, Inhabited, Repr
/-- methods that change the receiver, a name -/
inductive Mm where
  | append | pop | extend
  deriving DecidableEq, Inhabited, Repr
inductive Ty where
  | int | bool | str | tuple | list
  deriving DecidableEq, Inhabited, Repr
mutual
inductive T where
  | nm (i : Nat) | tp (ts : Ts)
inductive Ts where
  | nil | cons (t : T) (ts : Ts)
end
mutual
inductive E where
  | var (i : Nat) | cst (i : Nat) | fn (f : Nat)
  | non | bl (b : Bool) | int (i : Int) | str (s : Str)
  | bin (op : Operator) (a b : E) | neg (a : E) | not (a : E) | and (a b : E) | or (a b : E)
  | cmp (op : CmpOp) (a b : E) | chain (op op' : CmpOp) (a b c : E)
  | ite (t a b : E) | tup (es : Es) | lst (es : Es) | dct (ks : List Key) (vs : Es) | dct0 | dic0 | dic1 (k v : E) | sset (e : E)
  | ix (a b : E) | slN (a : E) | slL (a l : E) | slH (a h : E) | slB (a l h : E)
  | call (f : Nat) (es : Es) | callv (g : E) (es : Es)
  | bi (b : Bi) (es : Es) | isi (e : E) (t : Ty) | bm (m : Bm) (o : E) (es : Es) | mm (m : Mm) (i : Nat) (es : Es)
  | lc (elt : E) (t : T) (it : I) (c : E) (own : List Nat)
  | lc2 (elt : E) (t : T) (it : I) (c : E) (t1 : T) (it1 : I) (c1 : E) (own own1 : List Nat)
inductive Es where
  | nil | cons (e : E) (es : Es)
inductive I where
  | sq (e : E) | rng1 (a : E) | rng2 (a b : E) | enum (a : E) | zip (a b : E)
end
mutual
inductive S where
  | expr (e : E) | asg (t : T) (e : E) | par (ts : Ts) (es : Es) | setix (i : Nat) (ix e : E) | setd (i : Nat) (ix e : E) | aug (i : Nat) (op : Operator) (e : E) | augix (i : Nat) (op : Operator) (ix e : E)
  | ret (e : E) | retN | cond (t : E) (a b : Ss) | whl (t : E) (b : Ss) | loop (t : T) (it : I) (b : Ss)
  | pass | cont | brk | raise (c : Nat) | try1 (b : Ss) (c : Nat) (h : Ss)
inductive Ss where
  | nil | cons (s : S) (ss : Ss) | clr (own : List Nat) (ss : Ss) | frz (own : List Nat) (ss : Ss)
end
def Es.len : Es → Nat
  | .nil => 0
  | .cons _ r => r.len + 1
def Ts.len : Ts → Nat
  | .nil => 0
  | .cons _ r => r.len + 1

/-! ### operations on data -/
/-- the content of a result -/
def cont (env : Env) : R → Option D
  | .v d => some d
  | .fr o => some o.toD
  | .ow i => match env[i]? with
    | some (.v d) => some d
    | some (.ow _ o) => some o.toD
    | _ => none
/-- .. shared from now on -/
def frz (r : R) : M D := fun env => match r with
  | .v d => some (.ok d env)
  | .fr o => some (.ok o.toD env)
  | .ow i => match env[i]? with
    | some (.v d) => some (.ok d env)
    | some (.ow false o) => some (.ok o.toD (env.set i (.v o.toD)))
    | _ => none
def conts (env : Env) : List R → Option (List D)
  | [] => some []
  | r :: rs => match cont env r, conts env rs with
    | some d, some ds => some (d :: ds)
    | _, _ => none

def strD : D → Option Str
  | .str s => some s
  | _ => none
def eqA (a b : D) : Option Bool := match toPy a, toPy b with
  | some x, some y => if SeqAt.shaped x && SeqAt.shaped y then some (PyData.eqv x y) else none
  | _, _ => none
def eqD (a b : D) : Option Bool := match strD a, strD b with
  | some x, some y => some (decide (x = y))
  | _, _ => eqA a b
def truthD : D → Option Bool
  | .non => some false
  | .bl b => some b
  | .int i => some (i != 0)
  | .str s => if s.length ≤ sizeLine then some (s.length != 0) else none
  | .tup l => some (!l.isEmpty)
  | .lst l => some (!l.isEmpty)
  | _ => none
def flatD : D → Bool
  | .non | .bl _ | .int _ | .str _ => true
  | _ => false
def tupV (l : List D) : Option PR := if l.length ≤ sizeLine then some (.v (.tup l)) else none
def lstF (l : List D) : Option PR := if l.length ≤ sizeLine then some (.fr (.lst l)) else none
/- comparisons with large numbers: stuck at an open number, as the kernel reckons them -/
def leS (i : Int) (b : Nat) : Bool := match i with
  | .ofNat n => Nat.ble n b
  | .negSucc _ => true
def geS (b : Nat) (i : Int) : Bool := match i with
  | .ofNat _ => true
  | .negSucc n => Nat.ble (n + 1) b
theorem leS_iff {i : Int} {b : Nat} : leS i b = true ↔ i ≤ b := by
  cases i with
  | ofNat n =>
    show Nat.ble n b = true ↔ Int.ofNat n ≤ (b : Int)
    rw [Nat.ble_eq]
    exact Int.ofNat_le.symm
  | negSucc n =>
    refine ⟨fun _ => ?_, fun _ => rfl⟩
    have := Int.negSucc_lt_zero n
    omega
theorem geS_iff {i : Int} {b : Nat} : geS b i = true ↔ -(b : Int) ≤ i := by
  cases i with
  | ofNat n =>
    refine ⟨fun _ => ?_, fun _ => rfl⟩
    have : (0 : Int) ≤ Int.ofNat n := Int.natCast_nonneg n
    omega
  | negSucc n =>
    show Nat.ble (n + 1) b = true ↔ -(b : Int) ≤ Int.negSucc n
    rw [Nat.ble_eq, Int.negSucc_eq]
    omega
def smallI (i : Int) : Bool := geS 18446744073709551615 i && leS i 18446744073709551615
theorem smallI_iff {i : Int} : smallI i = true ↔ -(2 ^ 64) < i ∧ i < 2 ^ 64 := by
  unfold smallI
  rw [Bool.and_eq_true, geS_iff, leS_iff]
  have e : (2 : Int) ^ 64 = 18446744073709551616 := by decide
  rw [e]
  omega
def divI (j : Int) : Bool := !(leS j 0) && leS j 1073741823
theorem divI_iff {j : Int} : divI j = true ↔ 0 < j ∧ j < 1073741824 := by
  unfold divI
  rw [Bool.and_eq_true, Bool.not_eq_true', ← Bool.not_eq_true, leS_iff, leS_iff]
  omega
def mulI (n : Nat) (k : Int) : Bool := geS 9223372036854775808 k && leS k 9223372036854775807 && Nat.ble (n * k.toNat) sizeLine
theorem mulI_iff {n : Nat} {k : Int} : mulI n k = true ↔ -(2 ^ 63) ≤ k ∧ k < 2 ^ 63 ∧ n * k.toNat ≤ sizeLine := by
  unfold mulI
  rw [Bool.and_eq_true, Bool.and_eq_true, geS_iff, leS_iff, Nat.ble_eq]
  have e : (2 : Int) ^ 63 = 9223372036854775808 := by decide
  rw [e]
  constructor
  · rintro ⟨⟨h1, h2⟩, h3⟩; exact ⟨h1, by omega, h3⟩
  · rintro ⟨h1, h2, h3⟩; exact ⟨⟨h1, by omega⟩, h3⟩
def binD : Operator → D → D → Option PR
  | .Add, .int i, .int j => some (.v (.int (i + j)))
  | .Add, .str i, .str j => if i.length + j.length ≤ sizeLine then some (.v (.str (i ++ j))) else none
  | .Add, .tup i, .tup j => if i.length + j.length ≤ sizeLine then some (.v (.tup (i ++ j))) else none
  | .Add, .lst i, .lst j => if i.length + j.length ≤ sizeLine then some (.fr (.lst (i ++ j))) else none
  | .Sub, .int i, .int j => some (.v (.int (i - j)))
  | .Mult, .int i, .int j => if smallI i || smallI j then some (.v (.int (i * j))) else none
  | .Mult, .tup l, .int k => if l.length ≤ 100 ∧ k ≤ 10000 ∧ -(2 ^ 63) ≤ k then some (.v (.tup (List.replicate k.toNat l).flatten)) else none
  | .Mult, .lst l, .int k => if mulI l.length k then some (.fr (.lst (List.replicate k.toNat l).flatten)) else none
  | .FloorDiv, .int i, .int j => if divI j then some (.v (.int (i / j))) else none
  | .Mod, .int i, .int j => if 0 < j then some (.v (.int (i % j))) else none
  | .Pow, .int i, .int j => if 0 ≤ j ∧ j ≤ 1000000 ∧ i.natAbs < 2 ^ 64 then some (.v (.int (i ^ j.toNat))) else none
  | _, _, _ => none
/-- a dict's look-up -/
def keyD : D → Option Key
  | .int i => some (.inl i)
  | .str s => some (.inr s)
  | _ => none
def lookK (l : List (Key × D)) (k : Key) : Option D := (l.find? fun kv => decide (kv.1 = k)).map (·.2)
mutual
def nkD : D → Option NestedKey
  | .non => some .none
  | .bl b => some (.num (if b = true then 1 else 0))
  | .int i => some (.num i)
  | .str s => some (.text s)
  | .tup l => match nkL l with
    | some ks => some (.tup ks)
    | none => none
  | _ => none
def nkL : List D → Option (List NestedKey)
  | [] => some []
  | d :: r => match nkD d with
    | some k => (match nkL r with
      | some ks => some (k :: ks)
      | none => none)
    | none => none
end
/-- a tuple as a key -/
def keyN : D → Option NestedKey
  | .tup l => match nkL l with
    | some ks => if (NestedKey.tup ks).depth ≤ 8 then some (.tup ks) else none
    | none => none
  | _ => none
def lookN (l : List (NestedKey × D)) (k : NestedKey) : Option D := (l.find? fun kv => decide (kv.1 = k)).map (·.2)
def inD (d : D) : D → Option Bool
  | .dct l => (keyD d).map fun k => (lookK l k).isSome
  | .dic l => (keyN d).map fun k => (lookN l k).isSome
  | .lst l => match toPy d, toPyL l with
    | some x, some ys => if SeqAt.shaped x && SeqAt.shaped (.list ys) then some (ys.any fun z => PyData.eqv z x) else none
    | _, _ => none
  | .tup l => match toPy d, toPyL l with
    | some x, some ys => if SeqAt.shaped x && SeqAt.shaped (.tuple ys) then some (ys.any fun z => PyData.eqv z x) else none
    | _, _ => none
  | _ => none
def cmpD : CmpOp → D → D → Option Bool
  | .Eq, a, b => eqD a b
  | .NotEq, a, b => (eqD a b).map (!·)
  | .Lt, .int i, .int j => some (decide (i < j))
  | .LtE, .int i, .int j => some (decide (i ≤ j))
  | .Gt, .int i, .int j => some (decide (j < i))
  | .GtE, .int i, .int j => some (decide (j ≤ i))
  | .In, a, b => inD a b
  | .NotIn, a, b => (inD a b).map (!·)
  | .Is, a, .non => some (match a with | .non => true | _ => false)
  | .IsNot, a, .non => some (match a with | .non => false | _ => true)
  | _, _, _ => none
def negD : D → Option D
  | .int i => some (.int (-i))
  | _ => none
def ixD : D → D → Option D
  | .lst l, .int i => atI l i
  | .tup l, .int i => atI l i
  | .scr l, .int i => atI l i
  | .str s, .int i => if s.length ≤ sizeLine then (atI s.cps.toList i).map fun c => .str ⟨#[c]⟩ else none
  | .dct l, k => (keyD k).bind (lookK l)
  | .dic l, k => (keyN k).bind (lookN l)
  | _, _ => none
def cutD {α : Type} (xs : List α) (lo hi : Option Int) : List α := (xs.drop (HT.sIx xs.length 0 lo)).take (HT.sIx xs.length xs.length hi - HT.sIx xs.length 0 lo)
def slD (lo hi : Option Int) : D → Option PR
  | .lst l => some (.fr (.lst (cutD l lo hi)))
  | .tup l => some (.v (.tup (cutD l lo hi)))
  | _ => none
def intD : D → Option Int
  | .int i => some i
  | _ => none
def intsD : List D → Option (List Int)
  | [] => some []
  | .int i :: r => (intsD r).map (i :: ·)
  | _ :: _ => none
def blsD : List D → Option (List Bool)
  | [] => some []
  | .bl b :: r => (blsD r).map (b :: ·)
  | _ :: _ => none
def leI (a b : Int) : Bool := decide (a ≤ b)
def pyD (d : D) : PyData := (toPy d).getD .none
def isTup1 : PyData → Bool
  | .tuple (_ :: _) => true
  | _ => false
def isTup : PyData → Bool
  | .tuple _ => true
  | _ => false
/-- tuples that can be sorted -/
def sortOk (ys : List PyData) : Bool := ys.all (fun d => ys.all fun d' => PySem.W.alike d d') && ys.all (fun d => isTup d && decide (d.depth ≤ 64)) && decide (ys.length ≤ sizeLine) && (ys.all isTup1 || decide (ys.length ≤ 1))
def leP (a b : D) : Bool := PySem.W.dataLe false pyD a b
def sortT (l : List D) : Option (List D) := match toPyL l with
  | some ys => if sortOk ys then some (l.mergeSort leP) else none
  | none => none
def sortD (l : List D) : Option (List D) := match intsD l with
  | some ns => some ((ns.mergeSort leI).map D.int)
  | none => sortT l
def maxL : List Int → Int
  | [] => 0
  | x :: r => r.foldl max x
def minL : List Int → Int
  | [] => 0
  | x :: r => r.foldl min x
/-- into a sorted list without repetition -/
def insU (x : Int) : List Int → List Int
  | [] => [x]
  | y :: r => if x < y then x :: y :: r else if x = y then y :: r else y :: insU x r
def ssI : List Int → List Int
  | [] => []
  | x :: r => insU x (ssI r)
def ssetD : D → Option PR
  | .lst l => (match intsD l with
    | some ns => if ns.length < 64 then some (.fr (.lst ((ssI ns).map D.int))) else none
    | none => none)
  | _ => none
def isiD (t : Ty) : D → Option Bool
  | .non => some false
  | .int _ => some (t == .int)
  | .bl _ => some (t == .bool || t == .int)
  | .str _ => some (t == .str)
  | .tup _ => some (t == .tuple)
  | .lst _ => some (t == .list)
  | _ => none
def biD : Bi → List D → Option PR
  | .len, [.lst l] => some (.v (.int l.length))
  | .len, [.tup l] => some (.v (.int l.length))
  | .len, [.scr l] => some (.v (.int l.length))
  | .len, [.str s] => if s.length ≤ sizeLine then some (.v (.int s.length)) else none
  | .abs, [.int i] => some (.v (.int (if i < 0 then -i else i)))
  | .int, [.int i] => some (.v (.int i))
  | .int, [.bl b] => some (.v (.int (if b then 1 else 0)))
  | .str, [.int i] => if i.natAbs.log2 < 1920 then some (.v (.str (toString i : String))) else none
  | .repr, [d] => match toPy d with
    | some x => if x.showable && !x.hasDict && decide (x.depth ≤ 64) && decide (x.shown.length ≤ sizeLine) then some (.v (.str x.shown)) else none
    | none => none
  | .max, [.lst l] => match intsD l with
    | some (n :: ns) => some (.v (.int (maxL (n :: ns))))
    | _ => none
  | .min, [.lst l] => match intsD l with
    | some (n :: ns) => some (.v (.int (minL (n :: ns))))
    | _ => none
  | .tuple, [.lst l] => some (.v (.tup l))
  | .tuple, [.tup l] => some (.v (.tup l))
  | .list, [.lst l] => some (.fr (.lst l))
  | .list, [.tup l] => some (.fr (.lst l))
  | .sorted, [.lst l] => (sortD l).bind fun x => some (.fr (.lst x))
  | .sum, [.lst l] => (intsD l).bind fun ns => some (.v (.int ns.sum))
  | .any, [.lst l] => (blsD l).bind fun bs => some (.v (.bl (bs.any id)))
  | .all, [.lst l] => (blsD l).bind fun bs => some (.v (.bl (bs.all id)))
  | .max, [.int i, .int j] => some (.v (.int (if j > i then j else i)))
  | .min, [.int i, .int j] => some (.v (.int (if j < i then j else i)))
  | _, _ => none
def eqPy (x y : D) : Bool := match toPy x, toPy y with
  | some a, some b => PyData.eqv a b
  | _, _ => false
def bmD : Bm → D → List D → Option PR
  | .lindex, .lst l, [d] => match toPy d, toPyL l with
    | some x, some ys => if SeqAt.shaped x && SeqAt.shaped (.list ys) then (ys.findIdx? fun z => PyData.eqv z x).map fun j => .v (.int j) else none
    | _, _ => none
  | .lcount, .lst l, [d] => match toPy d, toPyL l with
    | some x, some ys => if SeqAt.shaped x && SeqAt.shaped (.list ys) then some (.v (.int ((ys.countP fun z => PyData.eqv z x : Nat) : Int))) else none
    | _, _ => none
  | _, _, _ => none
/-- a changing method: what comes back, the new content -/
def mmD : Mm → Ob → List D → Option (PR × Ob)
  | .append, .lst l, [d] => if l.length < sizeLine then some (.v .non, .lst (l ++ [d])) else none
  | .pop, .lst l, [] => match l.getLast? with
    | some d => some (.v d, .lst l.dropLast)
    | none => none
  | .extend, .lst l, [.lst m] => if l.length + m.length ≤ sizeLine then some (.v .non, .lst (l ++ m)) else none
  | _, _, _ => none
def rngL (lo : Int) (n : Nat) : List D := (List.range n).map fun (i : Nat) => D.int (lo + (i : Int))
def bigI (i : Int) : Bool := geS 4611686018427387904 i && leS i 4611686018427387903
def seqD : D → Option (List D)
  | .lst l => some l
  | .tup l => some l
  | .scr l => some l
  | _ => none
def lstD : D → Option (List D)
  | .lst l => some l
  | .scr l => some l
  | _ => none
def tupD : D → Option (List D)
  | .tup l => some l
  | _ => none
def enumD (d : D) : Option (List D) := (lstD d).map fun l => l.mapIdx fun i d => .tup [.int i, d]
def zipL (l m : List D) : List D := (l.zip m).map fun p => .tup [p.1, p.2]
def zipD (d e : D) : Option (List D) := match lstD d, lstD e with
  | some l, some m => some (zipL l m)
  | _, _ => match tupD d, tupD e with
    | some l, some m => some (zipL l m)
    | _, _ => none

/-! ### the evaluator -/
structure Def where
  np : Nat
  ns : Nat
  body : Ss
  bor : Option Nat := none
/-- a call's end -/
inductive CO where
  | ret (r : PR) (env : Env) | ex (x : Ex) (env : Env)
  deriving Inhabited
structure Tab where
  fns : Nat → Option Def
  cst : Nat → D
/-- calls of the level below -/
abbrev CF := Nat → List Sl → Option CO

/-- what is taken apart -/
def unpD : D → Option (List D)
  | .tup l => some l
  | .lst l => some l
  | _ => none
def store (i : Nat) (s : Sl) : M Unit := fun env => match env[i]? with
  | some (.ow true _) => none
  | some _ => some (.ok () (env.set i s))
  | none => none
/-- a result into a slot -/
def putR (i : Nat) (r : R) : M Unit := match r with
  | .v d => store i (.v d)
  | .fr o => store i (.ow false o)
  | .ow j => bnd (frz (.ow j)) fun d => store i (.v d)
mutual
def asgT : T → R → M Unit
  | .nm i, r => putR i r
  | .tp ts, r => fun env => match (cont env r).bind unpD with
    | some l => if l.length = ts.len then asgTs ts l env else none
    | none => none
def asgTs : Ts → List D → M Unit
  | .nil, _ => ret ()
  | .cons t ts, d :: ds => bnd (asgT t (.v d)) fun _ => asgTs ts ds
  | .cons _ _, [] => stuck
end
def asgRs : Ts → List R → M Unit
  | .nil, [] => ret ()
  | .nil, _ :: _ => stuck
  | .cons t ts, r :: rs => bnd (asgT t r) fun _ => asgRs ts rs
  | .cons _ _, [] => stuck
def wipeE (env : Env) : List Nat → Env
  | [] => env
  | v :: vs => (wipeE env vs).set v .un
/-- the block's own names as they were ahead -/
def backE (env0 env : Env) : List Nat → Env
  | [] => env
  | v :: vs => (backE env0 env vs).set v (env0.getD v .un)
/-- no exception leaves a block -/
def noEx {α : Type} (m : M α) : M α := fun env => match m env with
  | some (.ok a e) => some (.ok a e)
  | _ => none
/-- a comprehension's turns: own the block's names -/
def lcLoop (own : List Nat) (turn : D → M (Option D)) : List D → List D → M (List D)
  | [], acc => ret acc
  | d :: ds, acc => fun env => match turn d env with
    | some (.ok (some x) e) => if acc.length < sizeLine then lcLoop own turn ds (acc ++ [x]) (wipeE e own) else none
    | some (.ok none e) => lcLoop own turn ds acc (wipeE e own)
    | _ => none
def lc2Loop (own : List Nat) (turn : D → List D → M (List D)) : List D → List D → M (List D)
  | [], acc => ret acc
  | d :: ds, acc => fun env => match turn d acc env with
    | some (.ok acc' e) => lc2Loop own turn ds acc' (wipeE e own)
    | _ => none
/-- the arguments: values; where the def may change its j-th one: a slot -/
inductive Ar where
  | v (d : D) | ow (i : Nat)
def argR (b : Bool) (r : R) : M Ar := match b, r with
  | true, .ow i => ret (.ow i)
  | _, r => bnd (frz r) fun d => ret (.v d)
def argsR (bor : Option Nat) : Nat → List R → M (List Ar)
  | _, [] => ret []
  | j, r :: rs => bnd (argR (bor == some j) r) fun a => bnd (argsR bor (j + 1) rs) fun as => ret (a :: as)
def slOf (env : Env) : Ar → Option Sl
  | .v d => some (.v d)
  | .ow i => match env[i]? with
    | some (.ow _ o) => some (.ow true o)
    | some (.v d) => some (.v d)
    | _ => none
def slsOf (env : Env) : List Ar → Option (List Sl)
  | [] => some []
  | a :: as => match slOf env a, slsOf env as with
    | some s, some ss => some (s :: ss)
    | _, _ => none
def slotOf (bor : Option Nat) (as : List Ar) : Option (Nat × Nat) := match bor with
  | none => none
  | some j => match as[j]? with
    | some (.ow i) => some (i, j)
    | _ => none
/-- behind a call: the object that was handed in, as it is now -/
def backCall (at_ : Option (Nat × Nat)) (c : CO) : M R := fun env => match at_ with
  | none => (match c with
    | .ret r _ => some (.ok r.r env)
    | .ex x _ => some (.ex x env))
  | some (i, j) => (match env[i]? with
    | some (.ow b _) => (match c with
      | .ret r e => (match e[j]? with
        | some (.ow true o) => some (.ok r.r (env.set i (.ow b o)))
        | _ => none)
      | .ex x e => (match e[j]? with
        | some (.ow true o) => some (.ex x (env.set i (.ow b o)))
        | _ => none))
    | some (.v _) => (match c with
      | .ret r _ => some (.ok r.r env)
      | .ex x _ => some (.ex x env))
    | _ => none)
def callM (tb : Tab) (cf : CF) (f : Nat) (rs : List R) : M R := match tb.fns f with
  | none => stuck
  | some d => if rs.length = d.np then bnd (argsR d.bor 0 rs) fun as env => match slsOf env as with
    | none => none
    | some sls => (match cf f sls with
      | none => none
      | some c => backCall (slotOf d.bor as) c env) else stuck
def keysOf : List D → Option (List Key)
  | [] => some []
  | d :: r => match keyD d, keysOf r with
    | some k, some ks => some (k :: ks)
    | _, _ => none
def putKD (kvs : List (Key × D)) (k : Key) (v : D) : List (Key × D) :=
  if (kvs.any fun kv => decide (kv.1 = k)) = true then kvs.map (fun kv => if kv.1 = k then (kv.1, v) else kv) else kvs ++ [(k, v)]
def putN (kvs : List (NestedKey × D)) (k : NestedKey) (v : D) : List (NestedKey × D) :=
  if (kvs.any fun kv => decide (kv.1 = k)) = true then kvs.map (fun kv => if kv.1 = k then (kv.1, v) else kv) else kvs ++ [(k, v)]
def frzL : List R → M (List D)
  | [] => ret []
  | r :: rs => bnd (frz r) fun d => bnd (frzL rs) fun ds => ret (d :: ds)
def unOw : R → M R
  | .ow j => bnd (frz (.ow j)) fun d => ret (.v d)
  | r => ret r
def unOwL : List R → M (List R)
  | [] => ret []
  | r :: rs => bnd (unOw r) fun x => bnd (unOwL rs) fun xs => ret (x :: xs)
def augD : Operator → D → D → Option PR
  | .Add, .int i, .int j => some (.v (.int (i + j)))
  | .Sub, .int i, .int j => some (.v (.int (i - j)))
  | .Mult, .int i, .int j => if smallI i || smallI j then some (.v (.int (i * j))) else none
  | .FloorDiv, .int i, .int j => if divI j then some (.v (.int (i / j))) else none
  | .Mod, .int i, .int j => if 0 < j then some (.v (.int (i % j))) else none
  | .Add, .str i, .str j => if i.length + j.length ≤ sizeLine then some (.v (.str (i ++ j))) else none
  | _, _, _ => none
section
variable (tb : Tab) (cf : CF)
/-- a value's truth -/
def tst (m : M R) : M Bool := bnd m fun x env => match (cont env x).bind truthD with
  | some k => some (.ok k env)
  | none => none
/-- the value's way, with its truth -/
abbrev both (m : M R) : M R × M Bool := (m, tst m)
def oneP (f : D → Option PR) (x : R) : M R := fun env => match (cont env x).bind f with
  | some r => some (.ok r.r env)
  | none => none
def twoP (f : D → D → Option PR) (x y : R) : M R := fun env => match cont env x, cont env y with
  | some c, some d => (match f c d with
    | some r => some (.ok r.r env)
    | none => none)
  | _, _ => none
def allP (f : List D → Option PR) (rs : List R) : M R := fun env => match conts env rs with
  | some ds => (match f ds with
    | some r => some (.ok r.r env)
    | none => none)
  | none => none
def vP {α : Type} (f : α → D) (o : Option α) : Option PR := o.map fun a => .v (f a)
def turn1 (as : D → M Unit) (test : M Bool) (elt : M R) (d : D) : M (Option D) :=
  bnd (as d) fun _ => bnd test fun k => if k then bnd elt fun x => bnd (frz x) fun y => ret (some y) else ret none
def lcM (own : List Nat) (it : M (List D)) (turn : D → M (Option D)) : M R := bnd it fun ds env =>
  match lcLoop own turn ds [] (wipeE env own) with
  | some (.ok l e) => some (.ok (.fr (.lst l)) (backE env e own))
  | _ => none
def turn2 (own1 : List Nat) (as : D → M Unit) (test : M Bool) (it1 : M (List D)) (turn : D → M (Option D)) (d : D) (acc : List D) : M (List D) :=
  bnd (as d) fun _ => bnd test fun k => if k then bnd it1 fun ds1 env1 => lcLoop own1 turn ds1 acc (wipeE env1 own1) else ret acc
def lc2M (own : List Nat) (it : M (List D)) (turn : D → List D → M (List D)) : M R := bnd it fun ds env =>
  match lc2Loop own turn ds [] (wipeE env own) with
  | some (.ok l e) => some (.ok (.fr (.lst l)) (backE env e own))
  | _ => none
def mmP (m : Mm) (i : Nat) (ds : List D) : M R := fun env => match env[i]? with
  | some (.ow b o) => (match mmD m o ds with
    | some (r, o') => some (.ok r.r (env.set i (.ow b o')))
    | none => none)
  | _ => none
def dctP (kk : List Key) (vd : List D) : M R := if kk.length = vd.length ∧ kk.length ≤ 15 ∧ kk ≠ [] then ret (.fr (.dct ((kk.zip vd).foldl (fun acc kv => putKD acc kv.1 kv.2) []))) else stuck
/-- the slot has an own dict -/
def ownD (i : Nat) : M Unit := fun env => match env[i]? with
  | some (.ow _ (.dct _)) => some (.ok () env)
  | some (.ow _ (.dic _)) => some (.ok () env)
  | _ => none
def dic1P (c v : D) : M R := match keyN c with
  | some k => ret (.fr (.dic [(k, v)]))
  | none => stuck
/-- the slot has an own list -/
def ownL (i : Nat) : M Unit := fun env => match env[i]? with
  | some (.ow _ (.lst _)) => some (.ok () env)
  | _ => none
/-- a list -/
def isLst (x : R) : M Unit := fun env => match cont env x with
  | some (.lst _) => some (.ok () env)
  | _ => none
def bmP (m : Bm) (x : R) (rs : List R) : M R := fun env => match cont env x with
  | some c => allP (bmD m c) rs env
  | none => none
def isBl (x : R) : M Bool := fun env => match cont env x with
  | some (.bl b) => some (.ok b env)
  | _ => none
def fnOf (x : R) : M Nat := fun env => match cont env x with
  | some (.fn f) => (match tb.fns f with
    | some _ => some (.ok f env)
    | none => none)
  | _ => none
def intR (x : R) : M Int := fun env => match (cont env x).bind intD with
  | some i => some (.ok i env)
  | none => none
def frS (x : R) : M (List D) := bnd (frz x) fun d => lft (seqD d)
mutual
def ev : E → M R × M Bool
  | .var i => both fun env => match env[i]? with
    | some (.v d) => some (.ok (.v d) env)
    | some (.ow _ _) => some (.ok (.ow i) env)
    | _ => none
  | .cst i => both (ret (.v (tb.cst i)))
  | .fn f => both (ret (.v (.fn f)))
  | .non => both (ret (.v .non))
  | .bl b => both (ret (.v (.bl b)))
  | .int i => both (ret (.v (.int i)))
  | .str s => both (ret (.v (.str s)))
  | .bin op a b => both (bnd (ev a).1 fun x => bnd (ev b).1 fun y => twoP (binD op) x y)
  | .neg a => both (bnd (ev a).1 fun x => oneP (fun d => vP id (negD d)) x)
  | .not a => (bnd (ev a).1 fun x => oneP (fun d => vP (fun k => .bl (!k)) (truthD d)) x, bnd (ev a).2 fun b => ret (!b))
  | .and a b => (bnd (ev a).1 fun x => bnd (isBl x) fun k => if k then (ev b).1 else ret (.v (.bl false)),
      bnd (ev a).2 fun c => if c then (ev b).2 else ret false)
  | .or a b => (bnd (ev a).1 fun x => bnd (isBl x) fun k => if k then ret (.v (.bl true)) else (ev b).1,
      bnd (ev a).2 fun c => if c then ret true else (ev b).2)
  | .cmp op a b => both (bnd (ev a).1 fun x => bnd (ev b).1 fun y => twoP (fun c d => vP .bl (cmpD op c d)) x y)
  | .chain op op' a b c => both (bnd (ev a).1 fun x => bnd (ev b).1 fun y => bnd (bnd (twoP (fun c d => vP .bl (cmpD op c d)) x y) isBl) fun k =>
      if k then bnd (ev c).1 fun z => twoP (fun c d => vP .bl (cmpD op' c d)) y z else ret (.v (.bl false)))
  | .ite t a b => (bnd (ev t).2 fun c => if c then (ev a).1 else (ev b).1, bnd (ev t).2 fun c => if c then (ev a).2 else (ev b).2)
  | .tup es => both (bnd (evL es) fun rs => bnd (frzL rs) fun ds => lft ((tupV ds).map PR.r))
  | .lst es => both (bnd (evL es) fun rs => bnd (frzL rs) fun ds => lft ((lstF ds).map PR.r))
  | .dct ks vs => both (bnd (evL vs) fun ys => bnd (frzL ys) fun vd => dctP ks vd)
  | .dct0 => both (ret (.fr (.dct [])))
  | .dic0 => both (ret (.fr (.dic [])))
  | .dic1 k v => both (bnd (ev k).1 fun x => bnd (ev v).1 fun y => bnd (frz y) fun d env => match cont env x with
    | some c => dic1P c d env
    | none => none)
  | .sset e => both (bnd (ev e).1 fun x => oneP ssetD x)
  | .ix a b => both (bnd (ev a).1 fun x => bnd (ev b).1 fun y => twoP (fun c d => vP id (ixD c d)) x y)
  | .slN a => both (bnd (ev a).1 fun x => oneP (slD none none) x)
  | .slL a l => both (bnd (ev a).1 fun x => bnd (ev l).1 fun y => bnd (intR y) fun i => oneP (slD (some i) none) x)
  | .slH a h => both (bnd (ev a).1 fun x => bnd (ev h).1 fun y => bnd (intR y) fun i => oneP (slD none (some i)) x)
  | .slB a l h => both (bnd (ev a).1 fun x => bnd (ev l).1 fun y => bnd (intR y) fun i => bnd (ev h).1 fun z => bnd (intR z) fun j => oneP (slD (some i) (some j)) x)
  | .call f es => both (bnd (evL es) fun rs => callM tb cf f rs)
  | .callv g es => both (bnd (ev g).1 fun x => bnd (fnOf tb x) fun f => bnd (evL es) fun rs => callM tb cf f rs)
  | .bi b es => both (bnd (evL es) fun rs => allP (biD b) rs)
  | .isi e t => both (bnd (ev e).1 fun x => oneP (fun d => vP .bl (isiD t d)) x)
  | .bm m o es => both (bnd (ev o).1 fun x => bnd (isLst x) fun _ => bnd (evL es) fun rs => bmP m x rs)
  | .mm m i es => both (bnd (ownL i) fun _ => bnd (evL es) fun rs => bnd (frzL rs) fun ds => mmP m i ds)
  | .lc elt t it c own => both (lcM own (evI it) (turn1 (fun d => asgT t (.v d)) (ev c).2 (ev elt).1))
  | .lc2 elt t it c t1 it1 c1 own own1 => both (lc2M own (evI it) (turn2 own1 (fun d => asgT t (.v d)) (ev c).2 (evI it1) (turn1 (fun d => asgT t1 (.v d)) (ev c1).2 (ev elt).1)))
def evL : Es → M (List R)
  | .nil => ret []
  | .cons e es => bnd (ev e).1 fun x => bnd (evL es) fun xs => ret (x :: xs)
def evI : I → M (List D)
  | .sq e => bnd (ev e).1 frS
  | .rng1 a => bnd (ev a).1 fun x => bnd (intR x) fun i => if bigI i then ret (rngL 0 i.toNat) else stuck
  | .rng2 a b => bnd (ev a).1 fun x => bnd (ev b).1 fun y => bnd (intR x) fun i => bnd (intR y) fun j => if bigI i && bigI j then ret (rngL i (j - i).toNat) else stuck
  | .enum a => bnd (ev a).1 fun x => bnd (frz x) fun d => lft (enumD d)
  | .zip a b => bnd (ev a).1 fun x => bnd (frz x) fun d => bnd (ev b).1 fun y => bnd (frz y) fun e => lft (zipD d e)
end

/-! ### statements -/
inductive SO where
  | nx (env : Env) | rt (r : PR) (env : Env) | bk (env : Env) | ct (env : Env) | ex (x : Ex) (env : Env)
  deriving Inhabited
/-- what a return hands back -/
def outR (env : Env) : R → Option PR
  | .v d => some (.v d)
  | .fr o => some (.fr o)
  | .ow i => match env[i]? with
    | some (.v d) => some (.v d)
    | some (.ow false o) => some (.fr o)
    | _ => none
def runM {α : Type} (m : M α) (env : Env) (k : α → Env → Option SO) : Option SO := match m env with
  | none => none
  | some (.ex x e) => some (.ex x e)
  | some (.ok a e) => k a e
def whileN (t : M Bool) (body : Env → Option SO) : Nat → Env → Option SO
  | 0, _ => none
  | n + 1, env => runM t env fun b e => if b then (match body e with
      | some (.nx e) => whileN t body n e
      | some (.ct e) => whileN t body n e
      | some (.bk e) => some (.nx e)
      | r => r) else some (.nx e)
def forL (as : D → M Unit) (body : Env → Option SO) : List D → Env → Option SO
  | [], env => some (.nx env)
  | d :: ds, env => runM (as d) env fun _ e => (match body e with
      | some (.nx e) => forL as body ds e
      | some (.ct e) => forL as body ds e
      | some (.bk e) => some (.nx e)
      | r => r)
def setIx (i : Nat) (n : Int) (v : D) : M Unit := fun env => match env[i]? with
  | some (.ow b (.lst l)) => (match ixN l.length n with
    | some j => some (.ok () (env.set i (.ow b (.lst (l.set j v)))))
    | none => none)
  | _ => none
def setDc (i : Nat) (y : R) (v : D) : M Unit := fun env => match cont env y with
  | none => none
  | some c => (match env[i]? with
    | some (.ow b (.dct l)) => (match keyD c with
      | some k => if l.length < sizeLine then some (.ok () (env.set i (.ow b (.dct (putKD l k v))))) else none
      | none => none)
    | some (.ow b (.dic l)) => (match keyN c with
      | some k => if l.length < sizeLine then some (.ok () (env.set i (.ow b (.dic (putN l k v))))) else none
      | none => none)
    | _ => none)
/-- slots that are not asked any more -/
def clrE (env : Env) : List Nat → Option Env
  | [] => some env
  | v :: vs => match env[v]? with
    | some (.ow true _) => none
    | some _ => clrE (env.set v .un) vs
    | none => none
/-- own objects that are shared from now on -/
def frzE (env : Env) : List Nat → Env
  | [] => env
  | v :: vs => match env[v]? with
    | some (.ow false o) => frzE (env.set v (.v o.toD)) vs
    | _ => frzE env vs
/-- l[k], of a slot's own list -/
def getIx (i : Nat) (y : R) : M D := fun env => match env[i]? with
  | some (.ow _ (.lst l)) => (match (cont env y).bind intD with
    | some n => (match atI l n with
      | some d => some (.ok d env)
      | none => none)
    | none => none)
  | _ => none
/-- l[k] = x op z -/
def augIx (i : Nat) (op : Operator) (y : R) (x : D) (z : R) : M Unit := fun env => match cont env z with
  | some c => (match augD op x c with
    | some (.v d) => (match (cont env y).bind intD with
      | some n => setIx i n d env
      | none => none)
    | _ => none)
  | none => none
def whileMost : Nat := 100000
mutual
def evS : S → Env → Option SO
  | .expr e, env => runM (ev tb cf e).1 env fun _ e => some (.nx e)
  | .asg t e, env => runM (bnd (ev tb cf e).1 (asgT t)) env fun _ e => some (.nx e)
  | .par ts es, env => runM (bnd (bnd (evL tb cf es) unOwL) (asgRs ts)) env fun _ e => some (.nx e)
  | .setix i k e, env => runM (bnd (ev tb cf e).1 fun x => bnd (frz x) fun d => bnd (ownL i) fun _ => bnd (ev tb cf k).1 fun y => bnd (intR y) fun n => setIx i n d) env fun _ e => some (.nx e)
  | .setd i k e, env => runM (bnd (ev tb cf e).1 fun x => bnd (frz x) fun d => bnd (ownD i) fun _ => bnd (ev tb cf k).1 fun y => setDc i y d) env fun _ e => some (.nx e)
  | .aug i op e, env => runM (bnd (ev tb cf (.var i)).1 fun x => bnd (ev tb cf e).1 fun y => bnd (twoP (augD op) x y) (putR i)) env fun _ e => some (.nx e)
  | .augix i op k e, env => runM (bnd (ownL i) fun _ => bnd (ev tb cf k).1 fun y => bnd (getIx i y) fun x => bnd (ev tb cf e).1 fun z => augIx i op y x z) env fun _ e => some (.nx e)
  | .ret e, env => runM (ev tb cf e).1 env fun r e => (outR e r).map fun p => .rt p e
  | .retN, env => some (.rt (.v .non) env)
  | .cond t a b, env => runM (ev tb cf t).2 env fun c e => if c then evB a e else evB b e
  | .whl t b, env => whileN (ev tb cf t).2 (evB b) whileMost env
  | .loop t it b, env => runM (evI tb cf it) env fun ds e => forL (fun d => asgT t (.v d)) (evB b) ds e
  | .pass, env => some (.nx env)
  | .cont, env => some (.ct env)
  | .brk, env => some (.bk env)
  | .raise c, env => some (.ex ⟨c, .non⟩ env)
  | .try1 b c h, env => match evB b env with
    | some (.ex x e) => if x.cls = c then evB h e else none
    | r => r
def evB : Ss → Env → Option SO
  | .nil, env => some (.nx env)
  | .cons s ss, env => match evS s env with
    | some (.nx e) => evB ss e
    | r => r
  | .clr own ss, env => match clrE env own with
    | some e => evB ss e
    | none => none
  | .frz own ss, env => evB ss (frzE env own)
end
end

/-- a def's call -/
def runDef (tb : Tab) (cf : CF) (d : Def) (args : List Sl) : Option CO :=
  if args.length = d.np ∧ d.np ≤ d.ns then match evB tb cf d.body (args ++ List.replicate (d.ns - d.np) .un) with
    | some (.nx e) => some (.ret (.v .non) e)
    | some (.rt r e) => some (.ret r e)
    | some (.ex x e) => some (.ex x e)
    | _ => none
  else none
def callF (tb : Tab) : Nat → CF
  | 0 => fun _ _ => none
  | k + 1 => fun f args => match tb.fns f with
    | some d => runDef tb (callF tb k) d args
    | none => none
end Ev

set_option Elab.async false
set_option linter.all false
/-! States: what stands for the evaluator's data. -/
namespace Ev
open PySem PySem.Spec L2
open PyProof.Rows hiding St

/-- where the defs and the exceptions' classes stand -/
structure Adr where
  K : PySem.W.Frag
  fn : Nat → Addr
  xc : Nat → Addr
  w : World
/-- where a dict with tuples as keys stands -/
def DicO (w : World) (a : Addr) (xs : List (NestedKey × Addr × Value)) : HO := .ext fun h => ∃ (o : Obj) (es : Array DictEntry) (ep : Nat), h.get? a = some o ∧ o.ExactDict ∧ o.data = .dict es ep ∧ es.toList = xs.map fun x : NestedKey × Addr × Value => (⟨NestedKey.hash w x.1, .ref x.2.1, x.2.2⟩ : DictEntry)

section
variable (G : Adr)
mutual
inductive Rep (F : Hp) : V → D → Prop
  | non : Rep F .non .non
  | bl (b : Bool) : Rep F (.bl b) (.bl b)
  | int (i : Int) : Rep F (.int i) (.int i)
  | str (s : Str) : Rep F (.str s) (.str s)
  | tup {a : Addr} {xs : List V} {l : List D} : SqT G.K F a xs → RepL F xs l → Rep F (.ref a) (.tup l)
  | lst {a : Addr} {xs : List V} {l : List D} : Rd F a (.lst xs) → RepL F xs l → Rep F (.ref a) (.lst l)
  | scr {a : Addr} {xs : List V} {l : List D} : SqL G.K F a xs → RepL F xs l → Rep F (.ref a) (.scr l)
  | dct {a : Addr} {xs : List (Key × V)} {l : List (Key × D)} : F a = some (.dK xs) → RepK F xs l → Rep F (.ref a) (.dct l)
  | fn (f : Nat) : Rep F (.ref (G.fn f)) (.fn f)
  | dic {a : Addr} {xs : List (NestedKey × Addr × Value)} {l : List (NestedKey × D)} : F a = some (DicO G.w a xs) → (a == sysModules) = false → l.length ≤ sizeLine → (l.map (·.1)).Nodup → RepN F xs l → Rep F (.ref a) (.dic l)
inductive RepN (F : Hp) : List (NestedKey × Addr × Value) → List (NestedKey × D) → Prop
  | nil : RepN F [] []
  | cons {k : NestedKey} {b : Addr} {u : Value} {kd : D} {v : V} {d : D} {xs : List (NestedKey × Addr × Value)} {ds : List (NestedKey × D)} : Rep F (.ref b) kd → keyN kd = some k → RelV v u → Rep F v d → RepN F xs ds → RepN F ((k, b, u) :: xs) ((k, d) :: ds)
inductive RepL (F : Hp) : List V → List D → Prop
  | nil : RepL F [] []
  | cons {v : V} {vs : List V} {d : D} {ds : List D} : Rep F v d → RepL F vs ds → RepL F (v :: vs) (d :: ds)
inductive RepK (F : Hp) : List (Key × V) → List (Key × D) → Prop
  | nil : RepK F [] []
  | cons {k : Key} {v : V} {vs : List (Key × V)} {d : D} {ds : List (Key × D)} : Rep F v d → RepK F vs ds → RepK F ((k, v) :: vs) ((k, d) :: ds)
end
end
section
variable {G : Adr} {T : Nat → Addr → Prop} {F F' H H' : Hp}
theorem sameSeqT {K : PySem.W.Frag} {a : Addr} {xs : List V} (e : Same F F') (h : SqT K F a xs) : SqT K F' a xs := by
  rcases h with (h | ⟨o, h⟩) | h
  · exact .inl (.inl (e _ _ h))
  · exact .inl (.inr ⟨o, e _ _ h⟩)
  · exact .inr h
theorem sameRd {a : Addr} {o : HO} (e : Same F F') (h : Rd F a o) : Rd F' a o := by
  rcases h with h | ⟨o, h⟩
  · exact .inl (e _ _ h)
  · exact .inr ⟨o, e _ _ h⟩
mutual
theorem Rep.mono (e : Same F F') : ∀ {d : D} {v : V}, Rep G F v d → Rep G F' v d
  | _, _, .non => .non
  | _, _, .bl b => .bl b
  | _, _, .int i => .int i
  | _, _, .str s => .str s
  | _, _, .tup h r => .tup (sameSeqT e h) (r.mono e)
  | _, _, .lst h r => .lst (sameRd e h) (r.mono e)
  | _, _, .scr h r => .scr (e.seq h) (r.mono e)
  | _, _, .dct h r => .dct (e _ _ h) (r.mono e)
  | _, _, .fn f => .fn f
  | _, _, .dic h a b c r => .dic (e _ _ h) a b c (r.mono e)
theorem RepN.mono (e : Same F F') : ∀ {ds : List (NestedKey × D)} {vs : List (NestedKey × Addr × Value)}, RepN G F vs ds → RepN G F' vs ds
  | _, _, .nil => .nil
  | _, _, .cons h a b c r => .cons (h.mono e) a b (c.mono e) (r.mono e)
theorem RepL.mono (e : Same F F') : ∀ {ds : List D} {vs : List V}, RepL G F vs ds → RepL G F' vs ds
  | _, _, .nil => .nil
  | _, _, .cons h r => .cons (h.mono e) (r.mono e)
theorem RepK.mono (e : Same F F') : ∀ {ds : List (Key × D)} {vs : List (Key × V)}, RepK G F vs ds → RepK G F' vs ds
  | _, _, .nil => .nil
  | _, _, .cons h r => .cons (h.mono e) (r.mono e)
end
theorem RepL.length : ∀ {ds : List D} {vs : List V}, RepL G F vs ds → vs.length = ds.length
  | _, _, .nil => rfl
  | _, _, .cons _ r => congrArg (· + 1) r.length
theorem RepL.append : ∀ {ds es : List D} {vs us : List V}, RepL G F vs ds → RepL G F us es → RepL G F (vs ++ us) (ds ++ es)
  | _, _, _, _, .nil, s => s
  | _, _, _, _, .cons h r, s => .cons h (r.append s)
theorem RepL.get : ∀ {ds : List D} {vs : List V} {i : Nat} {d : D}, RepL G F vs ds → ds[i]? = some d → ∃ v, vs[i]? = some v ∧ Rep G F v d
  | _, _, _, _, .nil, e => by simp at e
  | _, _, 0, _, .cons h _, e => ⟨_, rfl, by
    have e' := Option.some.inj e
    rw [← e']; exact h⟩
  | _, _, i + 1, d, .cons _ r, e => by
    obtain ⟨v, h1, h2⟩ := r.get (i := i) (d := d) e
    exact ⟨v, h1, h2⟩
theorem RepL.getV : ∀ {ds : List D} {vs : List V} {i : Nat} {v : V}, RepL G F vs ds → vs[i]? = some v → ∃ d, ds[i]? = some d ∧ Rep G F v d
  | _, _, _, _, .nil, e => by simp at e
  | _, _, 0, _, .cons h _, e => ⟨_, rfl, by
    have e' := Option.some.inj e
    rw [← e']; exact h⟩
  | _, _, i + 1, v, .cons _ r, e => by
    obtain ⟨d, h1, h2⟩ := r.getV (i := i) (v := v) e
    exact ⟨d, h1, h2⟩
theorem RepL.set : ∀ {ds : List D} {vs : List V} {v : V} {d : D} (i : Nat), RepL G F vs ds → Rep G F v d → RepL G F (vs.set i v) (ds.set i d)
  | _, _, _, _, _, .nil, _ => .nil
  | _, _, _, _, 0, .cons _ r, h => .cons h r
  | _, _, _, _, i + 1, .cons k r, h => .cons k (r.set i h)
theorem RepL.take : ∀ {ds : List D} {vs : List V} (n : Nat), RepL G F vs ds → RepL G F (vs.take n) (ds.take n)
  | _, _, 0, _ => .nil
  | _, _, _ + 1, .nil => .nil
  | _, _, n + 1, .cons h r => .cons h (r.take n)
theorem RepL.drop : ∀ {ds : List D} {vs : List V} (n : Nat), RepL G F vs ds → RepL G F (vs.drop n) (ds.drop n)
  | _, _, 0, r => r
  | _, _, _ + 1, .nil => .nil
  | _, _, n + 1, .cons _ r => r.drop n
theorem RepL.rep {ds : List D} {vs : List V} (h : RepL G F vs ds) : ∀ k : Nat, RepL G F (List.replicate k vs).flatten (List.replicate k ds).flatten
  | 0 => .nil
  | k + 1 => by
    rw [List.replicate_succ, List.replicate_succ, List.flatten_cons, List.flatten_cons]
    exact h.append (h.rep k)
theorem RepL.dropLast : ∀ {ds : List D} {vs : List V}, RepL G F vs ds → RepL G F vs.dropLast ds.dropLast
  | _, _, .nil => .nil
  | _, _, .cons _ .nil => .nil
  | _, _, .cons h (.cons h2 r) => .cons h (RepL.dropLast (.cons h2 r))

/-! ### objects -/
/-- an object of the heap with this content -/
inductive RepO (G : Adr) (F : Hp) (a : Addr) : HO → Ob → Prop
  | lst {xs : List V} {l : List D} : RepL G F xs l → RepO G F a (.lst xs) (.lst l)
  | dct {xs : List (Key × V)} {l : List (Key × D)} : RepK G F xs l → RepO G F a (.dK xs) (.dct l)
  | dic {xs : List (NestedKey × Addr × Value)} {l : List (NestedKey × D)} : (a == sysModules) = false → l.length ≤ sizeLine → (l.map (·.1)).Nodup → RepN G F xs l → RepO G F a (DicO G.w a xs) (.dic l)
theorem RepO.mono (e : Same F F') {o : Ob} {h : HO} {a : Addr} (r : RepO G F a h o) : RepO G F' a h o := by
  cases r with
  | lst r => exact .lst (r.mono e)
  | dct r => exact .dct (r.mono e)
  | dic a b c r => exact .dic a b c (r.mono e)
/-- from now on shared -/
theorem RepO.frozen {o : Ob} {h : HO} {a : Addr} (r : RepO G F a h o) (e : Same F F') (q : F' a = some h) : Rep G F' (.ref a) o.toD := by
  cases r with
  | lst r => exact .lst (.inl q) (r.mono e)
  | dct r => exact .dct q (r.mono e)
  | dic a b c r => exact .dic q a b c (r.mono e)

/-! ### slots and states -/
/-- what stands for a slot; own objects are not in F -/
inductive SlR (G : Adr) (F H : Hp) : Option V → Sl → Prop
  | un {x : Option V} : SlR G F H x .un
  | v {x : V} {d : D} : Rep G F x d → SlR G F H (some x) (.v d)
  | ow {a : Addr} {b : Bool} {o : Ob} {h : HO} : F a = none → H a = some h → RepO G F a h o → SlR G F H (some (.ref a)) (.ow b o)
/-- the address a is an own object of a slot -/
def Own (σ : St) (env : Env) (a : Addr) : Prop := ∃ (i : Nat) (b : Bool) (o : Ob), σ[i]? = some (some (V.ref a)) ∧ env[i]? = some (Sl.ow b o)
structure Now (G : Adr) (T : Nat → Addr → Prop) (F : Hp) (σ : St) (H : Hp) (env : Env) : Prop where
  same : Same F H
  len : env.length = σ.length
  sl : ∀ (i : Nat) (s : Sl), env[i]? = some s → ∃ x : Option V, σ[i]? = some x ∧ SlR G F H x s
  inj : ∀ (i j : Nat) (a : Addr) (b c : Bool) (o p : Ob), σ[i]? = some (some (V.ref a)) → σ[j]? = some (some (V.ref a)) → env[i]? = some (Sl.ow b o) → env[j]? = some (Sl.ow c p) → i = j
  tr : ∀ (i : Nat) (o : Ob), env[i]? = some (Sl.ow true o) → ∃ a, σ[i]? = some (some (V.ref a)) ∧ T i a
/-- since the state (F0, H0): B may have changed, else new things alone -/
structure Ext (F0 H0 : Hp) (B : Addr → Prop) (F : Hp) (σ : St) (H : Hp) (env : Env) : Prop where
  s0 : Same F0 F
  fresh : ∀ a, F a ≠ none → F0 a = none → H0 a = none ∨ B a
  pres : ∀ a o, H0 a = some o → ¬ B a → H a = some o
  own : ∀ a, Own σ env a → H0 a = none ∨ B a
structure Cond (G : Adr) (T : Nat → Addr → Prop) (F0 H0 : Hp) (B : Addr → Prop) (F : Hp) (σ : St) (H : Hp) (env : Env) : Prop where
  now : Now G T F σ H env
  ext : Ext F0 H0 B F σ H env
theorem Now.self {F H : Hp} {σ : St} {env : Env} (n : Now G T F σ H env) : Cond G T F H (Own σ env) F σ H env :=
  ⟨n, fun _ _ h => h, fun a h1 h2 => absurd h2 h1, fun _ _ h _ => h, fun _ h => .inr h⟩
theorem Cond.trans {F0 H0 F1 H1 F2 H2 : Hp} {B : Addr → Prop} {σ σ2 : St} {env1 env2 : Env} (a : Cond G T F0 H0 B F1 σ H1 env1) (b : Cond G T F1 H1 (Own σ env1) F2 σ2 H2 env2) : Cond G T F0 H0 B F2 σ2 H2 env2 := by
  have low : ∀ c, H1 c = none → H0 c = none ∨ B c := fun c h => by
    cases q : H0 c with
    | none => exact .inl rfl
    | some o =>
      by_cases hb : B c
      · exact .inr hb
      · rw [a.ext.pres c o q hb] at h
        cases h
  refine ⟨b.now, a.ext.s0.trans b.ext.s0, fun c h1 h2 => ?_, fun c o h1 h2 => ?_, fun c h => ?_⟩
  · by_cases q : F1 c = none
    · rcases b.ext.fresh c h1 q with r | r
      · exact low c r
      · exact a.ext.own c r
    · exact a.ext.fresh c q h2
  · refine b.ext.pres c o (a.ext.pres c o h1 h2) fun r => ?_
    rcases a.ext.own c r with z | z
    · rw [h1] at z; cases z
    · exact h2 z
  · rcases b.ext.own c h with r | r
    · exact low c r
    · exact a.ext.own c r
/-- what may be shared later: new since, or handed in -/
def Fz (H0 : Hp) (B : Addr → Prop) (a : Addr) : Prop := H0 a = none ∨ B a
theorem Cond.fz {F0 H0 F1 H1 : Hp} {B : Addr → Prop} {σ : St} {env1 : Env} (a : Cond G T F0 H0 B F1 σ H1 env1) {c : Addr} (h : Fz H1 (Own σ env1) c) : Fz H0 B c := by
  rcases h with h | h
  · cases q : H0 c with
    | none => exact .inl q
    | some o =>
      by_cases hb : B c
      · exact .inr hb
      · rw [a.ext.pres c o q hb] at h
        cases h
  · exact a.ext.own c h
/-- what stands for a result -/
inductive HR (G : Adr) (Z : Addr → Prop) (F : Hp) (σ : St) (H : Hp) (env : Env) : R → V → Prop
  | v {x : V} {d : D} : Rep G F x d → HR G Z F σ H env (.v d) x
  | fr {a : Addr} {o : Ob} {h : HO} : F a = none → H a = some h → RepO G F a h o → ¬ Own σ env a → Z a → HR G Z F σ H env (.fr o) (.ref a)
  | ow {i : Nat} {x : V} : σ[i]? = some (some x) → HR G Z F σ H env (.ow i) x
theorem HR.mono {Z Z' : Addr → Prop} {F H : Hp} {σ : St} {env : Env} {r : R} {x : V} (h : HR G Z F σ H env r x) (z : ∀ a, Z a → Z' a) : HR G Z' F σ H env r x := by
  cases h with
  | v h => exact .v h
  | fr h1 h2 h3 h4 h5 => exact .fr h1 h2 h3 h4 (z _ h5)
  | ow h => exact .ow h
/-- what stays true while other things are reckoned -/
abbrev Hd := Hp → St → Hp → Env → Prop
def Stable (G : Adr) (T : Nat → Addr → Prop) (P : Hd) : Prop := ∀ F σ H env F' H' env', P F σ H env → Now G T F σ H env → Cond G T F H (Own σ env) F' σ H' env' → P F' σ H' env'
theorem HR.stable (Z : Addr → Prop) (r : R) (x : V) : Stable G T (fun F σ H env => HR G Z F σ H env r x) := by
  intro F σ H env F' H' env' h n c
  cases h with
  | v h => exact .v (h.mono c.ext.s0)
  | fr h1 h2 h3 h4 h5 =>
    refine .fr ?_ (c.ext.pres _ _ h2 h4) (h3.mono c.ext.s0) (fun q => ?_) h5
    · refine Decidable.byContradiction fun z => ?_
      rcases c.ext.fresh _ z h1 with q | q
      · rw [h2] at q; cases q
      · exact h4 q
    · rcases c.ext.own _ q with z | z
      · rw [h2] at z; cases z
      · exact h4 z
  | ow h => exact .ow h
theorem Stable.and {P Q : Hd} (a : Stable G T P) (b : Stable G T Q) : Stable G T (fun F σ H env => P F σ H env ∧ Q F σ H env) :=
  fun _ _ _ _ _ _ _ h n c => ⟨a _ _ _ _ _ _ _ h.1 n c, b _ _ _ _ _ _ _ h.2 n c⟩
theorem Stable.tt : Stable G T (fun _ _ _ _ => True) := fun _ _ _ _ _ _ _ _ _ _ => trivial
theorem Stable.rep {x : V} {d : D} : Stable G T (fun F _ _ _ => Rep G F x d) := fun _ _ _ _ _ _ _ h _ c => h.mono c.ext.s0
theorem Stable.repL {x : List V} {d : List D} : Stable G T (fun F _ _ _ => RepL G F x d) := fun _ _ _ _ _ _ _ h _ c => h.mono c.ext.s0
/-- two new objects stand apart -/
def Apart (r : R) (x : V) (r' : R) (x' : V) : Prop := match r, r' with
  | .fr _, .fr _ => x ≠ x'
  | _, _ => True
def Aparts (r : R) (x : V) : List R → List V → Prop
  | r' :: rs, x' :: xs => Apart r x r' x' ∧ Aparts r x rs xs
  | _, _ => True
inductive HRs (G : Adr) (Z : Addr → Prop) (F : Hp) (σ : St) (H : Hp) (env : Env) : List R → List V → Prop
  | nil : HRs G Z F σ H env [] []
  | cons {r : R} {rs : List R} {x : V} {xs : List V} : HR G Z F σ H env r x → Aparts r x rs xs → HRs G Z F σ H env rs xs → HRs G Z F σ H env (r :: rs) (x :: xs)
theorem HRs.mono {Z Z' : Addr → Prop} {F H : Hp} {σ : St} {env : Env} (z : ∀ a, Z a → Z' a) : ∀ {r : List R} {x : List V}, HRs G Z F σ H env r x → HRs G Z' F σ H env r x
  | _, _, .nil => .nil
  | _, _, .cons h a r => .cons (h.mono z) a (HRs.mono z r)
theorem HRs.stable (Z : Addr → Prop) (r : List R) (x : List V) : Stable G T (fun F σ H env => HRs G Z F σ H env r x) := by
  intro F σ H env F' H' env' h n c
  induction h with
  | nil => exact .nil
  | cons a b _ ih => exact .cons (HR.stable _ _ _ _ _ _ _ _ _ _ a n c) b ih
/-- what has come behind a new object stands apart from it -/
theorem apart_of {Z : Addr → Prop} {F H F' H' : Hp} {σ : St} {env env' : Env} {r r' : R} {x x' : V} (h : HR G Z F σ H env r x) (h' : HR G (Fz H (Own σ env)) F' σ H' env' r' x') : Apart r x r' x' := by
  cases h with
  | v h => trivial
  | ow h => trivial
  | fr h1 h2 h3 h4 h5 =>
    cases h' with
    | v h => trivial
    | ow h => trivial
    | fr k1 k2 k3 k4 k5 =>
      show V.ref _ ≠ V.ref _
      intro e
      cases e
      rcases k5 with k5 | k5
      · rw [h2] at k5; cases k5
      · exact h4 k5
theorem aparts_of {Z : Addr → Prop} {F H F' H' : Hp} {σ : St} {env env' : Env} {r : R} {x : V} (h : HR G Z F σ H env r x) : ∀ {rs : List R} {xs : List V}, HRs G (Fz H (Own σ env)) F' σ H' env' rs xs → Aparts r x rs xs
  | _, _, .nil => trivial
  | _, _, .cons k _ t => ⟨apart_of h k, aparts_of h t⟩

/-! ### the content of a result -/
/-- x stands for d; a list or a dict at x may still be changed by its owner -/
def BRep (G : Adr) (F H : Hp) (x : V) (d : D) : Prop := Rep G F x d ∨ ∃ a h o, x = .ref a ∧ H a = some h ∧ RepO G F a h o ∧ d = o.toD
theorem HR.cont {Z : Addr → Prop} {F H : Hp} {σ : St} {env : Env} {r : R} {x : V} {d : D} (n : Now G T F σ H env) (h : HR G Z F σ H env r x) (e : cont env r = some d) : BRep G F H x d := by
  cases h with
  | v h => cases e; exact .inl h
  | fr h1 h2 h3 _ _ => cases e; exact .inr ⟨_, _, _, rfl, h2, h3, rfl⟩
  | ow h =>
    rename_i i
    have e : (match env[i]? with
      | some (Sl.v d) => some d
      | some (Sl.ow _ o) => some o.toD
      | _ => none) = some d := e
    cases q : env[i]? with
    | none => rw [q] at e; cases e
    | some s =>
      obtain ⟨y, h1, h2⟩ := n.sl i s q
      rw [h] at h1
      cases h1
      rw [q] at e
      cases h2 with
      | un => cases e
      | v h2 => cases e; exact .inl h2
      | ow h3 h4 h5 => cases e; exact .inr ⟨_, _, _, rfl, h4, h5, rfl⟩
theorem BRep.lst {F H : Hp} {x : V} {l : List D} (s : Same F H) (h : BRep G F H x (.lst l)) : ∃ a xs, x = .ref a ∧ Rd H a (.lst xs) ∧ RepL G F xs l := by
  rcases h with h | ⟨a, o, ob, rfl, h1, h2, e⟩
  · cases h with
    | lst h r => exact ⟨_, _, rfl, sameRd s h, r⟩
  · cases h2 with
    | lst r => cases e; exact ⟨_, _, rfl, .inl h1, r⟩
    | dct r => cases e
    | dic _ _ _ r => cases e
theorem BRep.scr {F H : Hp} {x : V} {l : List D} (s : Same F H) (h : BRep G F H x (.scr l)) : ∃ a xs, x = .ref a ∧ SqL G.K H a xs ∧ RepL G F xs l := by
  rcases h with h | ⟨a, o, ob, rfl, h1, h2, e⟩
  · cases h with
    | scr h r => exact ⟨_, _, rfl, s.seq h, r⟩
  · cases h2 <;> cases e
theorem BRep.tup {F H : Hp} {x : V} {l : List D} (s : Same F H) (h : BRep G F H x (.tup l)) : ∃ a xs, x = .ref a ∧ SqT G.K H a xs ∧ RepL G F xs l := by
  rcases h with h | ⟨a, o, ob, rfl, h1, h2, e⟩
  · cases h with
    | tup h r => exact ⟨_, _, rfl, sameSeqT s h, r⟩
  · cases h2 <;> cases e
theorem BRep.dct {F H : Hp} {x : V} {l : List (Key × D)} (s : Same F H) (h : BRep G F H x (.dct l)) : ∃ a xs, x = .ref a ∧ H a = some (.dK xs) ∧ RepK G F xs l := by
  rcases h with h | ⟨a, o, ob, rfl, h1, h2, e⟩
  · cases h with
    | dct h r => exact ⟨_, _, rfl, s _ _ h, r⟩
  · cases h2 with
    | lst r => cases e
    | dct r => cases e; exact ⟨_, _, rfl, h1, r⟩
    | dic _ _ _ r => cases e
theorem BRep.dic {F H : Hp} {x : V} {l : List (NestedKey × D)} (s : Same F H) (h : BRep G F H x (.dic l)) : ∃ a xs, x = .ref a ∧ H a = some (DicO G.w a xs) ∧ (a == sysModules) = false ∧ l.length ≤ sizeLine ∧ (l.map (·.1)).Nodup ∧ RepN G F xs l := by
  rcases h with h | ⟨a, o, ob, rfl, h1, h2, e⟩
  · cases h with
    | dic h a b c r => exact ⟨_, _, rfl, s _ _ h, a, b, c, r⟩
  · cases h2 with
    | lst r => cases e
    | dct r => cases e
    | dic a b c r => cases e; exact ⟨_, _, rfl, h1, a, b, c, r⟩
theorem BRep.flat {F H : Hp} {x : V} {d : D} (h : BRep G F H x d) (hd : ∀ l, d ≠ .lst l) (hk : ∀ l, d ≠ .dct l) (hn : ∀ l, d ≠ .dic l := by intro _ h; cases h) : Rep G F x d := by
  rcases h with h | ⟨a, o, ob, rfl, h1, h2, e⟩
  · exact h
  · cases h2 with
    | lst r => exact absurd e (hd _)
    | dct r => exact absurd e (hk _)
    | dic _ _ _ r => exact absurd e (hn _)
theorem BRep.int {F H : Hp} {x : V} {i : Int} (h : BRep G F H x (.int i)) : x = .int i := by
  have h := h.flat (fun _ => by simp) (fun _ => by simp)
  cases h; rfl
theorem BRep.bl {F H : Hp} {x : V} {i : Bool} (h : BRep G F H x (.bl i)) : x = .bl i := by
  have h := h.flat (fun _ => by simp) (fun _ => by simp)
  cases h; rfl
theorem BRep.str {F H : Hp} {x : V} {i : Str} (h : BRep G F H x (.str i)) : x = .str i := by
  have h := h.flat (fun _ => by simp) (fun _ => by simp)
  cases h; rfl
theorem BRep.non {F H : Hp} {x : V} (h : BRep G F H x .non) : x = .non := by
  have h := h.flat (fun _ => by simp) (fun _ => by simp)
  cases h; rfl
theorem BRep.fn {F H : Hp} {x : V} {f : Nat} (h : BRep G F H x (.fn f)) : x = .ref (G.fn f) := by
  have h := h.flat (fun _ => by simp) (fun _ => by simp)
  cases h; rfl

/-! ### what a builtin leaves -/
structure PPost (G : Adr) (F H : Hp) (pr : PR) (x : V) (F' H' : Hp) : Prop where
  ff : Same F F'
  fh : Same F' H'
  hh : Same H H'
  fresh : ∀ a, F' a ≠ none → F a = none → H a = none
  res : match pr with
    | .v d => Rep G F' x d
    | .fr o => ∃ a h, x = .ref a ∧ H a = none ∧ F' a = none ∧ H' a = some h ∧ RepO G F' a h o
theorem PPost.val {F H : Hp} {x : V} {d : D} (s : Same F H) (h : Rep G F x d) : PPost G F H (.v d) x F H := ⟨Same.refl _, s, Same.refl _, fun _ a b => absurd b a, h⟩
theorem same_upd {H : Hp} {p : Addr} {o : HO} (h : H p = none) : Same H (upd H p o) := fun b x e => by
  rw [upd_ne (ne_of_none e h)]
  exact e
theorem same_upd2 {F H : Hp} {p : Addr} {o : HO} (s : Same F H) : Same (upd F p o) (upd H p o) := fun b x e => by
  by_cases hb : b = p
  · subst hb
    rw [upd_same] at e ⊢
    exact e
  · rw [upd_ne hb] at e ⊢
    exact s _ _ e
theorem sameOff {F H : Hp} {a : Addr} (s : Same F H) (h : H a = none) : F a = none := by
  cases q : F a with
  | none => rfl
  | some o =>
    rw [s _ _ q] at h
    cases h
theorem PPost.tup {F H : Hp} {p : Addr} {xs : List V} {l : List D} (s : Same F H) (hp : H p = none) (h : RepL G F xs l) : PPost G F H (.v (.tup l)) (.ref p) (upd F p (.tup xs)) (upd H p (.tup xs)) :=
  have e := same_upd (o := .tup xs) (sameOff s hp)
  ⟨e, same_upd2 s, same_upd hp, fun a h1 h2 => by
    by_cases ha : a = p
    · rw [ha]; exact hp
    · rw [upd_ne ha] at h1
      exact absurd h2 h1, .tup (SqT.of upd_same) (h.mono e)⟩
theorem PPost.new {F H : Hp} {p : Addr} {o : Ob} {u : HO} (s : Same F H) (hp : H p = none) (h : RepO G F p u o) : PPost G F H (.fr o) (.ref p) F (upd H p u) :=
  ⟨Same.refl _, s.trans (same_upd hp), same_upd hp, fun _ a b => absurd b a, p, u, rfl, hp, sameOff s hp, upd_same, h⟩
theorem SlR.grow {F F' H H' : Hp} {x : Option V} {sl : Sl} (h : SlR G F H x sl) (ff : Same F F') (hh : ∀ a o, H a = some o → F a = none → (∃ b ob, sl = .ow b ob ∧ x = some (.ref a)) → F' a = none ∧ H' a = some o) : SlR G F' H' x sl := by
  cases h with
  | un => exact .un
  | v h => exact .v (h.mono ff)
  | ow h1 h2 h3 =>
    obtain ⟨q1, q2⟩ := hh _ _ h2 h1 ⟨_, _, rfl, rfl⟩
    exact .ow q1 q2 (h3.mono ff)
/-- a builtin's step is a step -/
theorem PPost.cond {F0 H0 F H F' H' : Hp} {B : Addr → Prop} {σ : St} {env : Env} {pr : PR} {x : V} (C : Cond G T F0 H0 B F σ H env) (p : PPost G F H pr x F' H') : Cond G T F0 H0 B F' σ H' env ∧ HR G (Fz H0 B) F' σ H' env pr.r x := by
  have keep : ∀ a o, H a = some o → F a = none → F' a = none ∧ H' a = some o := fun a o h1 h2 => ⟨(by
    refine Decidable.byContradiction fun z => ?_
    have q := p.fresh a z h2
    rw [q] at h1
    cases h1), p.hh _ _ h1⟩
  have n : Now G T F' σ H' env := ⟨p.fh, C.now.len, fun i s h => by
    obtain ⟨y, h1, h2⟩ := C.now.sl i s h
    exact ⟨y, h1, h2.grow p.ff fun a o q1 q2 _ => keep a o q1 q2⟩, C.now.inj, C.now.tr⟩
  have C' : Cond G T F H (Own σ env) F' σ H' env := ⟨n, p.ff, fun a h1 h2 => .inl (p.fresh a h1 h2), fun a o h _ => p.hh _ _ h, fun a h => .inr h⟩
  refine ⟨C.trans C', ?_⟩
  have r := p.res
  cases pr with
  | v d => exact .v r
  | fr o =>
    obtain ⟨a, h, rfl, h1, h2, h3, h4⟩ := r
    refine .fr h2 h3 h4 (fun ⟨i, b, ob, q1, q2⟩ => ?_) (C.fz (.inl h1))
    obtain ⟨y, h5, h6⟩ := C.now.sl i _ q2
    rw [q1] at h5
    cases h5
    cases h6 with
    | ow z1 z2 z3 => rw [h1] at z2; cases z2
end
end Ev

set_option Elab.async false
set_option linter.all false
set_option maxRecDepth 100000
set_option maxHeartbeats 1000000
/-! The builtins' operations do what the evaluator says. -/
namespace Ev
open PySem PySem.Spec L2
open PyProof.Rows hiding St
/-- a one-place, a two-place operation by data -/
def P1 (G : Adr) (f : D → Option PR) : V → Hp → VK → Prop := fun x H Q => ∃ F c pr, Same F H ∧ BRep G F H x c ∧ f c = some pr ∧ ∀ v F' H', PPost G F H pr v F' H' → Q v H'
def P2 (G : Adr) (f : D → D → Option PR) : R2 := fun x y H Q => ∃ F c d pr, Same F H ∧ BRep G F H x c ∧ BRep G F H y d ∧ f c d = some pr ∧ ∀ v F' H', PPost G F H pr v F' H' → Q v H'
inductive BReps (G : Adr) (F H : Hp) : List V → List D → Prop
  | nil : BReps G F H [] []
  | cons {x : V} {xs : List V} {d : D} {ds : List D} : BRep G F H x d → BReps G F H xs ds → BReps G F H (x :: xs) (d :: ds)
def PL (G : Adr) (f : List D → Option PR) : List V → Hp → VK → Prop := fun xs H Q => ∃ F cs pr, Same F H ∧ BReps G F H xs cs ∧ f cs = some pr ∧ ∀ v F' H', PPost G F H pr v F' H' → Q v H'

section
variable {X : Cx} {G : Adr} {F H : Hp}
theorem BReps.one {xs : List V} {d : D} (h : BReps G F H xs [d]) : ∃ x, xs = [x] ∧ BRep G F H x d := by
  cases h with
  | cons h r => cases r; exact ⟨_, rfl, h⟩
theorem BReps.two {xs : List V} {d e : D} (h : BReps G F H xs [d, e]) : ∃ x y, xs = [x, y] ∧ BRep G F H x d ∧ BRep G F H y e := by
  cases h with
  | cons h r => cases r with
    | cons k r => cases r; exact ⟨_, _, rfl, h, k⟩
theorem PPost.int {F H : Hp} {i : Int} (s : Same F H) : PPost G F H (.v (.int i)) (.int i) F H := .val s (.int i)
theorem PPost.str {F H : Hp} {i : Str} (s : Same F H) : PPost G F H (.v (.str i)) (.str i) F H := .val s (.str i)
theorem PPost.bl {F H : Hp} {i : Bool} (s : Same F H) : PPost G F H (.v (.bl i)) (.bl i) F H := .val s (.bl i)
theorem Rd.lenL {pins : List (Addr × Obj)} {σ : St} {H : Hp} {s : Shared} {l : Addr} {xs : List V} (I : Inv X pins σ H s) (h : Rd H l (.lst xs)) : xs.length ≤ sizeLine ∧ ∃ (its : List Value) (n : Nat), Vals xs its ∧ xs.length = its.length ∧ s.heap.get? l = some { cls := .type "list", data := .seq its.toArray n } := by
  obtain ⟨z, its, n, r, e⟩ := h.ok I.hok
  exact ⟨z, its, n, r, r.length, e⟩

/-! ### list + list, list * int, tuple * int -/
theorem op_catL : OpR X (binaryOp .Add) (fun x y H Q => ∃ l b xs zs, x = .ref l ∧ y = .ref b ∧ Rd H l (.lst xs) ∧ Rd H b (.lst zs) ∧ xs.length + zs.length ≤ sizeLine ∧ ∀ p, H p = none → Q (.ref p) (upd H p (.lst (xs ++ zs)))) := by
  intro pins s σ H x y v u Q I rx ry h
  obtain ⟨l, b, xs, zs, rfl, rfl, hH, hB, hz, q⟩ := h
  cases rx
  cases ry
  obtain ⟨_, its, n, r, e1, ho⟩ := Rd.lenL I hH
  obtain ⟨_, its2, n2, r2, e2, ho2⟩ := Rd.lenL I hB
  refine PySem.P.add_list ho ho2 ?_ (by rw [List.size_toArray, List.size_toArray]; omega)
  have ea : its.toArray ++ its2.toArray = (its ++ its2).toArray := by simp
  rw [ea]
  exact ⟨.ref _, _, I.lnew (t' := s.toks) (r.append r2) (by rw [List.length_append]; omega), rfl, q _ I.fresh⟩
theorem op_repL : OpR X (binaryOp .Mult) (fun x y H Q => ∃ l k xs, x = .ref l ∧ y = .int k ∧ Rd H l (.lst xs) ∧ -(2 ^ 63) ≤ k ∧ k < 2 ^ 63 ∧ xs.length * k.toNat ≤ sizeLine ∧ ∀ p, H p = none → Q (.ref p) (upd H p (.lst (List.replicate k.toNat xs).flatten))) := by
  intro pins s σ H x y v u Q I rx ry h
  obtain ⟨l, k, xs, rfl, rfl, hH, h1, h2, hz, q⟩ := h
  cases rx
  obtain ⟨t, rfl⟩ := ry
  obtain ⟨z, its, n, r, hl, e⟩ := Rd.lenL I hH
  have m0 : its.toArray.size * k.toNat ≤ sizeLine := by rw [List.size_toArray, ← hl]; exact hz
  have m1 : ¬ its.toArray.size * k.toNat > (2 ^ 63 - 1) / 8 := by
    have : (sizeLine : Nat) ≤ (2 ^ 63 - 1) / 8 := by decide
    omega
  have m2 : ¬ (!Builtin.List.listFitsIndex k) = true := by rw [fitsIndex_both h1 h2]; decide
  have m3 : ¬ Builtin.List.listTooLong (its.toArray.size * k.toNat) = true := by rw [notLongL m0]; decide
  have m4 : List.foldl (fun x1 x2 => x1 ++ x2) #[] (List.replicate (if its.toArray.isEmpty = true then 0 else k.toNat) its.toArray) = (List.replicate k.toNat its).flatten.toArray := by
    rw [L2.size_rep]
    cases its with
    | nil => simp
    | cons a r' => rw [if_neg (by simp)]
  refine wpAny_binaryOp_repeat_ref (T := "list") (U := "int") (by decide) ⟨_, e, rfl⟩ (fun s' => typeIs_int s' k t) noFill_list_mul F.fills_int_mul F.slot_int_rmul repeat_list F.slot_int_index.lookup ?_
  refine call_meets F.slot_int_rmul (typeIs_int s k t) F.entry_int_rmul (F.args_int_rmul_2 _ _) (int___rmul___int_list k t l its.toArray n) ⟨e, rfl, ⟨_, e, rfl⟩, ?_⟩
  refine call_meets F.slot_list_mul ⟨_, e, rfl⟩ F.entry_list_mul (F.args_list_mul_2 _ _) (AutoListH.list___mul___list_int_3 l its.toArray n k t m2 m1 m3) ⟨e, ?_⟩
  rw [m4]
  exact ⟨.ref _, _, I.lnew (t' := s.toks) (r.rep k.toNat) (by rw [PyProof.Rows.lm_len_rep_flat, Nat.mul_comm]; exact hz), rfl, q _ I.fresh⟩
/-- (..) * 1 and () * k: the tuple itself -/
theorem tup_mul_self (l : Addr) (items : Array Value) (n : Nat) (dd : Option Addr) (sl : Array (Option Value)) (x : Int) (u : Tok) (c0 : (decide (x < -(2 ^ 63)) || decide (x ≥ 2 ^ 63)) = false) (c1 : (items.isEmpty || x == 1) = true) :
    Meets (Builtin.«tuple.__mul__» ⟨[.ref l, .int x u], []⟩) (fun _ R s => s.heap.get? l = some { cls := .type "tuple", dict := dd, data := .seq items n, slots := sl } ∧ R (.ok (.ret (Value.ref l))) s) :=
  .of_wp fun prog w A R s h => by
    obtain ⟨hp, g, d, tk, os⟩ := s
    obtain ⟨hl, h⟩ := h
    have f1 := AutoSeq1.idx_int
    wp_walk using wpAny_loadPart' hl
    repeat (first
      | (refine wpAny_ite_false (decide_eq_false (by rw [c0]; exact Bool.false_ne_true)) ?_; wp_walk using wpAny_loadPart' hl)
      | (refine wpAny_ite_true (decide_eq_true c1) ?_; wp_walk using wpAny_loadPart' hl))
    exact ⟨_, rfl, h⟩
theorem tup_mul_none (l : Addr) (items : Array Value) (n : Nat) (dd : Option Addr) (sl : Array (Option Value)) (x : Int) (u : Tok) (c0 : (decide (x < -(2 ^ 63)) || decide (x ≥ 2 ^ 63)) = false) (c1 : (items.isEmpty || x == 1) = false) (c2 : (decide (x ≤ 0) || items.isEmpty) = true) :
    Meets (Builtin.«tuple.__mul__» ⟨[.ref l, .int x u], []⟩) (fun _ R s => s.heap.get? l = some { cls := .type "tuple", dict := dd, data := .seq items n, slots := sl } ∧
      R (.ok (.ret (Value.ref s.heap.objs.size))) { s with heap := s.heap.push { cls := Value.type "tuple", data := Data.seq #[] }, toks := s.toks }) :=
  .of_wp fun prog w A R s h => by
    obtain ⟨hp, g, d, tk, os⟩ := s
    obtain ⟨hl, h⟩ := h
    have f1 := AutoSeq1.idx_int
    wp_walk using wpAny_loadPart' hl
    repeat (first
      | (refine wpAny_ite_false (decide_eq_false (by rw [c0]; exact Bool.false_ne_true)) ?_; wp_walk using wpAny_loadPart' hl)
      | (refine wpAny_ite_false (decide_eq_false (by rw [c1]; exact Bool.false_ne_true)) ?_; wp_walk using wpAny_loadPart' hl)
      | (refine wpAny_ite_true (decide_eq_true c2) ?_; wp_walk using wpAny_loadPart' hl))
    exact ⟨_, rfl, h⟩
/-- (..) * k, 2 ≤ k -/
theorem op_repTB : OpR X (binaryOp .Mult) (fun x y H Q => ∃ l k xs, x = .ref l ∧ y = .int k ∧ SqT X.K H l xs ∧ xs ≠ [] ∧ 2 ≤ k ∧ k ≤ 10000 ∧ xs.length ≤ 100 ∧ ∀ p, H p = none → Q (.ref p) (upd H p (.tup (List.replicate k.toNat xs).flatten))) := by
  intro pins s σ H x y v u Q I rx ry h
  obtain ⟨l, k, xs, rfl, rfl, hT, hne, h1, h2, hz, q⟩ := h
  cases rx
  obtain ⟨t, rfl⟩ := ry
  obtain ⟨its, r, ⟨⟨cls, dd, data, sl⟩, ho, hc, n, hd⟩, hs⟩ := I.tuple hT
  simp only at hc hd
  subst hc hd
  have hle : its.length = xs.length := r.length.symm
  have hi : its.toArray.isEmpty = false := by
    cases its with
    | nil => exact absurd (List.eq_nil_of_length_eq_zero hle.symm) hne
    | cons a b => rfl
  have hsz : its.toArray.size = xs.length := by rw [List.size_toArray, hle]
  have e0 : ((xs.length : Nat) : Int) * k ≤ 100 * k := Int.mul_le_mul_of_nonneg_right (by omega) (by omega)
  have hm : ((its.toArray.size : Nat) : Int) * k ≤ 1000000 := by rw [hsz]; omega
  have e1 : k.toNat * xs.length ≤ 10000 * 100 := Nat.mul_le_mul (by omega) hz
  have sl0 := sizeLine_eq
  have c4 : Builtin.Tuple.tupleTooMany (((its.toArray.size : Nat) : Int) * k) = false := by
    unfold Builtin.Tuple.tupleTooMany
    exact decide_eq_false (by omega)
  have c1 : (its.toArray.isEmpty || k == 1) = false := by rw [hi, Bool.false_or]; exact beq_eq_false_iff_ne.mpr (by omega)
  have c2 : (decide (k ≤ 0) || its.toArray.isEmpty) = false := by rw [hi, Bool.or_false]; exact decide_eq_false (by omega)
  have c0 : (decide (k < -(2 ^ 63)) || decide (k ≥ 2 ^ 63)) = false := by rw [decide_eq_false (by omega), decide_eq_false (by omega)] <;> rfl
  have fl : (List.replicate k.toNat its).flatten.length ≤ sizeLine := by rw [PyProof.Rows.lm_len_rep_flat, hle]; omega
  refine wpAny_binaryOp_repeat_ref (T := "tuple") (U := "int") (by decide) ⟨_, ho, rfl⟩ (fun s' => typeIs_int s' k t) noFill_tuple_mul F.fills_int_mul F.slot_int_rmul repeat_tuple F.slot_int_index.lookup ?_
  refine call_meets F.slot_int_rmul (typeIs_int s k t) F.entry_int_rmul (F.args_int_rmul_2 _ _) (int_rmul_tuple k t l its.toArray n dd sl) ⟨ho, rfl, ⟨_, ho, rfl⟩, ?_⟩
  refine call_meets F.slot_tuple_mul ⟨_, ho, rfl⟩ F.entry_tuple_mul (F.args_tuple_mul_2 _ _) (tuple_mulW l its.toArray n dd sl k t c0 c1 c2 (by omega) c4 (by rw [L2.size_rep, List.size_toArray]; exact fl)) ⟨ho, ?_⟩
  rw [L2.size_rep]
  exact ⟨.ref s.heap.objs.size, _, I.laid (t' := s.toks) (o := .tup (List.replicate k.toNat xs).flatten) (fun b ob z => Heap.get?_push_of_some _ z) (Nat.le_refl _) ⟨by rw [PyProof.Rows.lm_len_rep_flat]; omega, _, r.rep k.toNat, IsTup.new _ _⟩, rfl, q _ I.fresh⟩
/-- a tuple times an int -/
theorem op_repTA : OpR X (binaryOp .Mult) (fun x y H Q => ∃ l k xs, x = .ref l ∧ y = .int k ∧ SqT X.K H l xs ∧ k ≤ 10000 ∧ xs.length ≤ 100 ∧ -(2 ^ 63) ≤ k ∧
    ((xs = [] ∨ k = 1) → Q (.ref l) H) ∧ (xs ≠ [] → k ≠ 1 → ∀ p, H p = none → Q (.ref p) (upd H p (.tup (List.replicate k.toNat xs).flatten)))) := by
  intro pins s σ H x y v u Q I rx ry h
  obtain ⟨l, k, xs, rfl, rfl, hT, h2, hz, h0, qs, qn⟩ := h
  by_cases big : xs ≠ [] ∧ 2 ≤ k
  · exact op_repTB pins s σ H _ _ v u Q I rx ry ⟨l, k, xs, rfl, rfl, hT, big.1, big.2, h2, hz, qn big.1 (by omega)⟩
  · cases rx
    obtain ⟨t, rfl⟩ := ry
    obtain ⟨its, r, ⟨⟨cls, dd, data, sl⟩, ho, hc, n, hd⟩, hs⟩ := I.tuple hT
    simp only at hc hd
    subst hc hd
    have c0 : (decide (k < -(2 ^ 63)) || decide (k ≥ 2 ^ 63)) = false := by
      rw [decide_eq_false (by omega), decide_eq_false (by omega)] <;> rfl
    have he : its.toArray.isEmpty = xs.isEmpty := by
      have := isEmpty_of r
      simpa using this
    refine wpAny_binaryOp_repeat_ref (T := "tuple") (U := "int") (by decide) ⟨_, ho, rfl⟩ (fun s' => typeIs_int s' k t) noFill_tuple_mul F.fills_int_mul F.slot_int_rmul repeat_tuple F.slot_int_index.lookup ?_
    refine call_meets F.slot_int_rmul (typeIs_int s k t) F.entry_int_rmul (F.args_int_rmul_2 _ _) (int_rmul_tuple k t l its.toArray n dd sl) ⟨ho, rfl, ⟨_, ho, rfl⟩, ?_⟩
    by_cases c : xs = [] ∨ k = 1
    · have c1 : (its.toArray.isEmpty || k == 1) = true := by
        rw [he]
        rcases c with c | c
        · rw [c]; rfl
        · rw [c]; simp
      refine call_meets F.slot_tuple_mul ⟨_, ho, rfl⟩ F.entry_tuple_mul (F.args_tuple_mul_2 _ _) (tup_mul_self l its.toArray n dd sl k t c0 c1) ⟨ho, ?_⟩
      exact ⟨.ref l, H, I, rfl, qs c⟩
    · have hx : xs ≠ [] := fun e => c (.inl e)
      have hk : k ≠ 1 := fun e => c (.inr e)
      have hk0 : k ≤ 0 := by
        refine Decidable.byContradiction fun z => big ⟨hx, by omega⟩
      have c1 : (its.toArray.isEmpty || k == 1) = false := by
        rw [he]
        have e1 : xs.isEmpty = false := by
          cases xs with
          | nil => exact absurd rfl hx
          | cons a b => rfl
        rw [e1, Bool.false_or]
        exact beq_eq_false_iff_ne.mpr hk
      have c2 : (decide (k ≤ 0) || its.toArray.isEmpty) = true := by rw [decide_eq_true hk0]; rfl
      refine call_meets F.slot_tuple_mul ⟨_, ho, rfl⟩ F.entry_tuple_mul (F.args_tuple_mul_2 _ _) (tup_mul_none l its.toArray n dd sl k t c0 c1 c2) ⟨ho, ?_⟩
      have e0 : (List.replicate k.toNat xs).flatten = [] := by
        rw [show k.toNat = 0 by omega]
        rfl
      have q := qn hx hk s.heap.objs.size I.fresh
      rw [e0] at q
      refine ⟨.ref s.heap.objs.size, _, I.laid (t' := s.toks) (o := .tup []) (fun b ob z => Heap.get?_push_of_some _ z) (Nat.le_refl _) ?_, rfl, q⟩
      exact ⟨Nat.zero_le _, [], .nil, IsTup.new _ _⟩

/-! ### binary operators -/
theorem RepL.nil_iff {F : Hp} {xs : List V} {l : List D} (h : RepL G F xs l) : xs = [] ↔ l = [] := by
  cases h <;> simp
theorem replicate_flatten_nil {α : Type} (k : Nat) : (List.replicate k ([] : List α)).flatten = [] := by
  induction k with
  | zero => rfl
  | succ k ih => rw [List.replicate_succ, List.flatten_cons, ih]; rfl
theorem op_binD (hK : X.K = G.K) (op : Operator) : OpR X (binaryOp op) (P2 G (binD op)) := by
  intro pins s σ H x y v u Q I rx ry h
  obtain ⟨F, c, d, pr, sm, hc, hd, e, q⟩ := h
  unfold binD at e
  split at e
  · cases e; obtain rfl := hc.int; obtain rfl := hd.int
    exact op_add pins s σ H _ _ v u Q I rx ry ⟨_, _, rfl, rfl, q _ F H (.int sm)⟩
  · split at e
    · rename_i i j hz
      cases e; obtain rfl := hc.str; obtain rfl := hd.str
      exact op_add_str pins s σ H _ _ v u Q I rx ry ⟨_, _, rfl, rfl, hz, q _ F H (.str sm)⟩
    · cases e
  · split at e
    · rename_i i j hz
      cases e
      obtain ⟨a, xs, rfl, h1, r1⟩ := hc.tup sm
      obtain ⟨b, ys, rfl, h2, r2⟩ := hd.tup sm
      have rc := hc.flat (fun _ => by simp) (fun _ => by simp)
      have rd := hd.flat (fun _ => by simp) (fun _ => by simp)
      rw [← hK] at h1 h2
      refine op_catA pins s σ H _ _ v u Q I rx ry ⟨a, b, xs, ys, rfl, rfl, h1, h2, by rw [r1.length, r2.length]; exact hz, fun z => ?_, fun _ z => ?_, fun _ _ p hp => ?_⟩
      · have e0 := r1.nil_iff.mp z
        subst e0
        exact q _ F H (.val sm rd)
      · have e0 := r2.nil_iff.mp z
        subst e0
        rw [List.append_nil] at q
        exact q _ F H (.val sm rc)
      · exact q _ _ _ (.tup sm hp (r1.append r2))
    · cases e
  · split at e
    · rename_i i j hz
      cases e
      obtain ⟨a, xs, rfl, h1, r1⟩ := hc.lst sm
      obtain ⟨b, ys, rfl, h2, r2⟩ := hd.lst sm
      exact op_catL pins s σ H _ _ v u Q I rx ry ⟨a, b, xs, ys, rfl, rfl, h1, h2, by rw [r1.length, r2.length]; exact hz, fun p hp => q _ _ _ (.new sm hp (.lst (r1.append r2)))⟩
    · cases e
  · cases e; obtain rfl := hc.int; obtain rfl := hd.int
    exact op_sub pins s σ H _ _ v u Q I rx ry ⟨_, _, rfl, rfl, q _ F H (.int sm)⟩
  · split at e
    · rename_i i j hz
      cases e; obtain rfl := hc.int; obtain rfl := hd.int
      refine op_mul pins s σ H _ _ v u Q I rx ry ⟨_, _, rfl, rfl, ?_, q _ F H (.int sm)⟩
      unfold CMul
      simp only [Bool.or_eq_true, smallI_iff] at hz
      exact hz
    · cases e
  · split at e
    · rename_i l k hz
      cases e; obtain rfl := hd.int
      obtain ⟨a, xs, rfl, h1, r1⟩ := hc.tup sm
      have rc := hc.flat (fun _ => by simp) (fun _ => by simp)
      rw [← hK] at h1
      refine op_repTA pins s σ H _ _ v u Q I rx ry ⟨a, k, xs, rfl, rfl, h1, hz.2.1, by rw [r1.length]; exact hz.1, hz.2.2, fun z => ?_, fun _ _ p hp => q _ _ _ (.tup sm hp (r1.rep _))⟩
      rcases z with z | z
      · have e0 := r1.nil_iff.mp z
        subst e0
        rw [replicate_flatten_nil] at q
        exact q _ F H (.val sm rc)
      · subst z
        have e1 : (List.replicate (1 : Int).toNat l).flatten = l := by simp
        rw [e1] at q
        exact q _ F H (.val sm rc)
    · cases e
  · split at e
    · rename_i l k hz
      have hz := mulI_iff.mp hz
      cases e; obtain rfl := hd.int
      obtain ⟨a, xs, rfl, h1, r1⟩ := hc.lst sm
      exact op_repL pins s σ H _ _ v u Q I rx ry ⟨a, k, xs, rfl, rfl, h1, hz.1, hz.2.1, by rw [r1.length]; exact hz.2.2, fun p hp => q _ _ _ (.new sm hp (.lst (r1.rep _)))⟩
    · cases e
  · split at e
    · rename_i i j hz
      cases e; obtain rfl := hc.int; obtain rfl := hd.int
      exact op_fdiv pins s σ H _ _ v u Q I rx ry ⟨_, _, rfl, rfl, divI_iff.mp hz, q _ F H (.int sm)⟩
    · cases e
  · split at e
    · rename_i i j hz
      cases e; obtain rfl := hc.int; obtain rfl := hd.int
      exact op_mod pins s σ H _ _ v u Q I rx ry ⟨_, _, rfl, rfl, hz, q _ F H (.int sm)⟩
    · cases e
  · split at e
    · rename_i i j hz
      cases e; obtain rfl := hc.int; obtain rfl := hd.int
      exact op_pow pins s σ H _ _ v u Q I rx ry ⟨_, _, rfl, rfl, hz, q _ F H (.int sm)⟩
    · cases e
  · cases e

/-! ### comparisons -/
mutual
theorem Rep.dp {F : Hp} (sm : Same F H) : ∀ {d : D} {x : V} {p : PyData}, Rep G F x d → toPy d = some p → Dp G.K H x p
  | _, _, _, .non, e => by cases e; exact .non
  | _, _, _, .bl b, e => by cases e; exact .bl b
  | _, _, _, .int i, e => by cases e; exact .int i
  | _, _, _, .str x, e => by cases e; exact .str x
  | .tup l, _, _, .tup h r, e => by
    have e : (toPyL l).map PyData.tuple = some _ := e
    cases q : toPyL l with
    | none => rw [q] at e; cases e
    | some ps =>
      rw [q] at e
      cases e
      exact .tup (sameSeqT sm h) (r.dp sm q)
  | .lst l, _, _, .lst h r, e => by
    have e : (toPyL l).map PyData.list = some _ := e
    cases q : toPyL l with
    | none => rw [q] at e; cases e
    | some ps =>
      rw [q] at e
      cases e
      exact .lst (.inl (sameRd sm h)) (r.dp sm q)
  | _, _, _, .scr _ _, e => by cases e
  | _, _, _, .dct _ _, e => by cases e
  | _, _, _, .fn _, e => by cases e
  | _, _, _, .dic _ _ _ _ _, e => by cases e
theorem RepL.dp {F : Hp} (sm : Same F H) : ∀ {l : List D} {xs : List V} {ps : List PyData}, RepL G F xs l → toPyL l = some ps → DpAll G.K H xs ps
  | _, _, _, .nil, e => by cases e; exact .nil
  | d :: r, _, ps, .cons h t, e => by
    have e : (match toPy d with
      | some x => (toPyL r).map (x :: ·)
      | none => none) = some ps := e
    cases q : toPy d with
    | none => rw [q] at e; cases e
    | some p =>
      rw [q] at e
      have e : (toPyL r).map (p :: ·) = some ps := e
      cases q2 : toPyL r with
      | none => rw [q2] at e; cases e
      | some ts =>
        rw [q2] at e
        cases e
        exact .cons (h.dp sm q) (t.dp sm q2)
end
theorem BRep.dp {x : V} {d : D} {p : PyData} (sm : Same F H) (h : BRep G F H x d) (e : toPy d = some p) : Dp G.K H x p := by
  rcases h with h | ⟨a, u, o, rfl, h1, h2, rfl⟩
  · exact h.dp sm e
  · cases h2 with
    | lst r =>
      rename_i xs l
      have e : (toPyL l).map PyData.list = some _ := e
      cases q : toPyL l with
      | none => rw [q] at e; cases e
      | some ps =>
        rw [q] at e
        cases e
        exact .lst (SqL.of h1) (r.dp sm q)
    | dct r => cases e
    | dic _ _ _ r => cases e
end
end Ev

set_option Elab.async false
set_option linter.all false
set_option maxRecDepth 100000
set_option maxHeartbeats 1000000
/-! Dicts whose keys are tuples: what stands for them. -/
namespace Ev
open PySem PySem.Spec L2
open PyProof.Rows hiding St
section
variable {X : Cx} {G : Adr} {F H : Hp} {pins : List (Addr × Obj)} {σ : St} {s : Shared}
mutual
theorem Rep.nested (hK : X.K = G.K) (I : Inv X pins σ H s) (sm : Same F H) : ∀ {d : D} {x : V} {u : Value} {k : NestedKey}, Rep G F x d → RelV x u → nkD d = some k → NestedIs s.heap k u
  | _, _, _, _, .non, r, e => by cases e; cases r; exact .none
  | _, _, _, _, .bl b, r, e => by cases e; cases r; exact .bool rfl
  | _, _, _, _, .int i, r, e => by cases e; obtain ⟨t, rfl⟩ := r; exact .int i t
  | _, _, _, _, .str x, r, e => by cases e; obtain ⟨t, rfl⟩ := r; exact .text x t
  | .tup l, _, _, k, .tup (xs := xs) h hr, r, e => by
    cases r
    have e : (match nkL l with
      | some ks => some (NestedKey.tup ks)
      | none => none) = some k := e
    cases q : nkL l with
    | none => rw [q] at e; cases e
    | some ks =>
      rw [q] at e
      cases e
      obtain ⟨its, rv, ⟨o, ho, hc, n, hd⟩, _⟩ := I.tuple (by rw [hK]; exact sameSeqT sm h)
      exact .tup ho hc hd (hr.nested hK I sm rv q)
  | _, _, _, _, .lst _ _, _, e => by cases e
  | _, _, _, _, .scr _ _, _, e => by cases e
  | _, _, _, _, .dct _ _, _, e => by cases e
  | _, _, _, _, .fn _, _, e => by cases e
  | _, _, _, _, .dic _ _ _ _ _, _, e => by cases e
theorem RepL.nested (hK : X.K = G.K) (I : Inv X pins σ H s) (sm : Same F H) : ∀ {l : List D} {xs : List V} {us : List Value} {ks : List NestedKey}, RepL G F xs l → Vals xs us → nkL l = some ks → NestedAll s.heap ks us
  | _, _, _, _, .nil, r, e => by cases r; cases e; exact .nil
  | d :: l, _, _, ks, .cons h t, r, e => by
    cases r with
    | cons r1 r2 =>
      have e : (match nkD d with
        | some k => (match nkL l with
          | some ks => some (k :: ks)
          | none => none)
        | none => none) = some ks := e
      cases q : nkD d with
      | none => rw [q] at e; cases e
      | some k =>
        rw [q] at e
        cases q2 : nkL l with
        | none =>
          have e : (match nkL l with
            | some ks => some (k :: ks)
            | none => none) = some ks := e
          rw [q2] at e; cases e
        | some ks' =>
          have e : (match nkL l with
            | some ks => some (k :: ks)
            | none => none) = some ks := e
          rw [q2] at e
          cases e
          exact .cons (h.nested hK I sm r1 q) (t.nested hK I sm r2 q2)
end
theorem keyN_tup {d : D} {k : NestedKey} (e : keyN d = some k) : ∃ l, d = .tup l ∧ nkD d = some k ∧ k.depth ≤ 8 := by
  cases d with
  | tup l =>
    have e : (match nkL l with
      | some ks => if (NestedKey.tup ks).depth ≤ 8 then some (NestedKey.tup ks) else none
      | none => none) = some k := e
    cases q : nkL l with
    | none => rw [q] at e; cases e
    | some ks =>
      rw [q] at e
      simp only at e
      split at e
      · rename_i hd
        cases e
        refine ⟨l, rfl, ?_, hd⟩
        show (match nkL l with
          | some ks => some (NestedKey.tup ks)
          | none => none) = _
        rw [q]
      · cases e
  | _ => cases e
theorem key_is (hK : X.K = G.K) (I : Inv X pins σ H s) (sm : Same F H) {b : Addr} {d : D} {k : NestedKey} (h : Rep G F (.ref b) d) (e : keyN d = some k) : (nestedKind X.prog X.w).is s.heap k b := by
  obtain ⟨l, rfl, e2, hd⟩ := keyN_tup e
  exact ⟨h.nested hK I sm (u := .ref b) rfl e2, hd⟩
theorem key_ref {x : V} {d : D} {k : NestedKey} (h : Rep G F x d) (e : keyN d = some k) : ∃ b, x = .ref b := by
  obtain ⟨l, rfl, e2, hd⟩ := keyN_tup e
  cases h with
  | tup _ _ => exact ⟨_, rfl⟩
theorem RepN.keys : ∀ {xs : List (NestedKey × Addr × Value)} {l : List (NestedKey × D)}, RepN G F xs l → xs.map (·.1) = l.map (·.1)
  | _, _, .nil => rfl
  | _, _, .cons _ _ _ _ t => by rw [List.map_cons, List.map_cons, t.keys]
theorem RepN.len {xs : List (NestedKey × Addr × Value)} {l : List (NestedKey × D)} (r : RepN G F xs l) : xs.length = l.length := by
  have := congrArg List.length r.keys
  simpa using this
theorem RepN.is (hK : X.K = G.K) (I : Inv X pins σ H s) (sm : Same F H) : ∀ {xs : List (NestedKey × Addr × Value)} {l : List (NestedKey × D)}, RepN G F xs l → ∀ x ∈ xs, (nestedKind X.prog X.w).is s.heap x.1 x.2.1
  | _, _, .nil, x, hx => nomatch hx
  | _, _, .cons h e _ _ t, x, hx => by
    rcases List.mem_cons.mp hx with q | hx
    · subst q
      exact key_is hK I sm h e
    · exact t.is hK I sm x hx
/-- the dict, as the kit tells it -/
theorem dic_of (hK : X.K = G.K) (hw : X.w = G.w) (I : Inv X pins σ H s) (sm : Same F H) {a : Addr} {xs : List (NestedKey × Addr × Value)} {l : List (NestedKey × D)} (h : H a = some (DicO G.w a xs)) (nd : (l.map (·.1)).Nodup) (r : RepN G F xs l) :
    s.heap.DictOfH (nestedKind X.prog X.w) a xs := by
  obtain ⟨⟨o, es, ep, h1, h2, h3, h4⟩, _⟩ := (show ObjOk X.prog X.w H s.heap a (DicO G.w a xs) from I.hok a _ h)
  refine ⟨o, es, ep, h1, h2, h3, ?_, r.is hK I sm, by rw [r.keys]; exact nd⟩
  rw [h4, ← hw]
  rfl
/-- .. and back -/
theorem dicO_ok {P : Program} {w : World} {H' : Hp} {h : Heap} {a : Addr} {xs : List (NestedKey × Addr × Value)} (d : h.DictOfH (nestedKind P w) a xs) : ObjOk P w H' h a (DicO w a xs) := by
  obtain ⟨o, es, ep, h1, h2, h3, h4, _, _⟩ := d
  refine ⟨⟨o, es, ep, h1, h2, h3, h4⟩, ⟨o, h1⟩, fun h1 h2 ⟨o, es, ep, q1, q2⟩ k => ⟨o, es, ep, k o q1, q2⟩⟩
theorem RepN.look {k : NestedKey} : ∀ {xs : List (NestedKey × Addr × Value)} {l : List (NestedKey × D)}, RepN G F xs l → (atKey xs k).isSome = (lookN l k).isSome ∧ ∀ d, lookN l k = some d → ∃ p v, atKey xs k = some p ∧ RelV v p.2 ∧ Rep G F v d
  | _, _, .nil => ⟨rfl, fun d e => by cases e⟩
  | _, _, .cons (k := k') (b := b) (u := u) (d := d) (xs := xs) (ds := ds) h e r1 r2 t => by
    by_cases hk : k' = k
    · have e1 : atKey ((k', b, u) :: xs) k = some (b, u) := by simp [atKey, List.find?_cons, hk]
      have e2 : lookN ((k', d) :: ds) k = some d := by simp [lookN, List.find?_cons, hk]
      rw [e1, e2]
      exact ⟨rfl, fun d' e' => by cases e'; exact ⟨_, _, rfl, r1, r2⟩⟩
    · have e1 : atKey ((k', b, u) :: xs) k = atKey xs k := by simp [atKey, List.find?_cons, hk]
      have e2 : lookN ((k', d) :: ds) k = lookN ds k := by simp [lookN, List.find?_cons, hk]
      rw [e1, e2]
      exact t.look
theorem lookN_any (l : List (NestedKey × D)) (k : NestedKey) : (lookN l k).isSome = (l.any fun kv => decide (kv.1 = k)) := by
  unfold lookN
  rw [Option.isSome_map]
  induction l with
  | nil => rfl
  | cons p l ih =>
    rw [List.find?_cons, List.any_cons]
    by_cases h : p.1 = k
    · simp [h]
    · simp [h, ih]
theorem RepN.repl {k : NestedKey} {y : V} {u : Value} {d : D} (ry : RelV y u) (hd : Rep G F y d) : ∀ {xs : List (NestedKey × Addr × Value)} {l : List (NestedKey × D)}, RepN G F xs l → RepN G F (xs.map (putAt k u)) (l.map fun kv => if kv.1 = k then (kv.1, d) else kv)
  | _, _, .nil => .nil
  | _, _, .cons (k := k') h e r1 r2 t => by
    rw [List.map_cons, List.map_cons]
    unfold putAt
    by_cases q : k' = k
    · simp only [q, if_true]
      rw [← q]
      have t' := t.repl (k := k) ry hd
      rw [q]
      exact .cons h (by rw [← q]; exact e) ry hd t'
    · simp only [q, if_false]
      exact .cons h e r1 r2 (t.repl ry hd)
theorem RepN.snoc {k : NestedKey} {b : Addr} {y : V} {u : Value} {kd d : D} (hb : Rep G F (.ref b) kd) (hk : keyN kd = some k) (ry : RelV y u) (hd : Rep G F y d) : ∀ {xs : List (NestedKey × Addr × Value)} {l : List (NestedKey × D)}, RepN G F xs l → RepN G F (xs ++ [(k, b, u)]) (l ++ [(k, d)])
  | _, _, .nil => .cons hb hk ry hd .nil
  | _, _, .cons h e r1 r2 t => .cons h e r1 r2 (t.snoc hb hk ry hd)
theorem RepN.put {k : NestedKey} {b : Addr} {y : V} {u : Value} {kd d : D} (hb : Rep G F (.ref b) kd) (hk : keyN kd = some k) (ry : RelV y u) (hd : Rep G F y d) {xs : List (NestedKey × Addr × Value)} {l : List (NestedKey × D)} (r : RepN G F xs l) : RepN G F (storedH xs k b u) (putN l k d) := by
  unfold storedH putN
  rw [r.look.1, lookN_any]
  split
  · exact r.repl ry hd
  · exact r.snoc hb hk ry hd
theorem putN_nodup {l : List (NestedKey × D)} {k : NestedKey} {d : D} (h : (l.map (·.1)).Nodup) : ((putN l k d).map (·.1)).Nodup := by
  unfold putN
  split
  · have e : (l.map (fun kv => if kv.1 = k then (kv.1, d) else kv)).map (·.1) = l.map (·.1) := by
      rw [List.map_map]
      refine List.map_congr_left fun x _ => ?_
      by_cases q : x.1 = k <;> simp [q]
    rw [e]
    exact h
  · rename_i hn
    rw [List.map_append]
    refine List.nodup_append.mpr ⟨h, by simp, fun a ha b hb e => hn ?_⟩
    subst e
    have hb : a = k := by simpa using hb
    subst hb
    obtain ⟨p, hp, q⟩ := List.mem_map.mp ha
    exact List.any_eq_true.mpr ⟨p, hp, by simp [q]⟩
theorem putN_len (l : List (NestedKey × D)) (k : NestedKey) (d : D) : (putN l k d).length ≤ l.length + 1 := by
  unfold putN
  split <;> simp
/-! ### the operations -/
theorem op_inN (hK : X.K = G.K) (hw : X.w = G.w) (hu : X.A.units + 100 < cLine) {A : Around} {E : Value → Shared → Prop} (hA : A = X.A) {Q : Value → Shared → Prop} (I : Inv X pins σ H s) (sm : Same F H) {y : V} {u : Value} {c : D} {k : NestedKey} {a : Addr} {xs : List (NestedKey × Addr × Value)} {l : List (NestedKey × D)}
    (ry : RelV y u) (hy : Rep G F y c) (hk : keyN c = some k) (h : H a = some (DicO G.w a xs)) (ha : (a == sysModules) = false) (nd : (l.map (·.1)).Nodup) (r : RepN G F xs l) (q : ∀ s', Inv X pins σ H s' → Q (.bool (lookN l k).isSome) s') :
    wpAny (model X.prog X.w) A (compareOp .In u (.ref a)) Q E s := by
  subst hA
  obtain ⟨b, rfl⟩ := key_ref hy hk
  cases ry
  refine wpAny_in_heap (knd := nestedKind X.prog X.w) ?_ (key_is hK I sm hy hk) ha (dic_of hK hw I sm h nd r) ?_
  · show X.A.in1.units + 8 < cLine
    have : X.A.in1.units = X.A.units + 1 := rfl
    omega
  · rw [r.look.1]
    exact q _ (I.tok _)
theorem op_notInN (hK : X.K = G.K) (hw : X.w = G.w) (hu : X.A.units + 100 < cLine) {A : Around} {E : Value → Shared → Prop} (hA : A = X.A) {Q : Value → Shared → Prop} (I : Inv X pins σ H s) (sm : Same F H) {y : V} {u : Value} {c : D} {k : NestedKey} {a : Addr} {xs : List (NestedKey × Addr × Value)} {l : List (NestedKey × D)}
    (ry : RelV y u) (hy : Rep G F y c) (hk : keyN c = some k) (h : H a = some (DicO G.w a xs)) (ha : (a == sysModules) = false) (nd : (l.map (·.1)).Nodup) (r : RepN G F xs l) (q : ∀ s', Inv X pins σ H s' → Q (.bool (!(lookN l k).isSome)) s') :
    wpAny (model X.prog X.w) A (compareOp .NotIn u (.ref a)) Q E s := by
  subst hA
  obtain ⟨b, rfl⟩ := key_ref hy hk
  cases ry
  refine wpAny_notIn_heap (knd := nestedKind X.prog X.w) ?_ (key_is hK I sm hy hk) ha (dic_of hK hw I sm h nd r) ?_
  · show X.A.in1.units + 8 < cLine
    have : X.A.in1.units = X.A.units + 1 := rfl
    omega
  · rw [r.look.1]
    exact q _ (I.tok _)
theorem dic_getItem (hK : X.K = G.K) (hw : X.w = G.w) {A : Around} (hu : A.units + 100 < cLine) {E : Value → Shared → Prop} {Q : Value → Shared → Prop} (I : Inv X pins σ H s) (sm : Same F H) {y : V} {u : Value} {c d : D} {k : NestedKey} {a : Addr} {xs : List (NestedKey × Addr × Value)} {l : List (NestedKey × D)}
    (ry : RelV y u) (hy : Rep G F y c) (hk : keyN c = some k) (h : H a = some (DicO G.w a xs)) (nd : (l.map (·.1)).Nodup) (r : RepN G F xs l) (hl : lookN l k = some d) (q : ∀ w' v s', Inv X pins σ H s' → RelV v w' → Rep G F v d → Q w' s') :
    wpAny (model X.prog X.w) A (getItem (.ref a) u) Q E s := by
  obtain ⟨b, rfl⟩ := key_ref hy hk
  cases ry
  obtain ⟨p, v, e1, e2, e3⟩ := r.look.2 d hl
  refine wpAny_getItem_heap (knd := nestedKind X.prog X.w) ?_ (key_is hK I sm hy hk) (dic_of hK hw I sm h nd r) e1 (q _ v _ (I.tok _) e2 e3)
  show A.in1.units + 8 < cLine
  have : A.in1.units = A.units + 1 := rfl
  omega
theorem dic_typeIs (hK : X.K = G.K) (hw : X.w = G.w) (I : Inv X pins σ H s) (sm : Same F H) {a : Addr} {xs : List (NestedKey × Addr × Value)} {l : List (NestedKey × D)} (h : H a = some (DicO G.w a xs)) (nd : (l.map (·.1)).Nodup) (r : RepN G F xs l) : s.TypeIs (.ref a) "dict" :=
  (dic_of hK hw I sm h nd r).typeIs
/-- o[i] = v, by data -/
def PSd (G : Adr) : TSet := fun o i v H Q => ∃ F d, Same F H ∧ Rep G F v d ∧
  ((∃ a xs l c k, o = .ref a ∧ H a = some (DicO G.w a xs) ∧ (a == sysModules) = false ∧ l.length < sizeLine ∧ (l.map (·.1)).Nodup ∧ RepN G F xs l ∧ Rep G F i c ∧ keyN c = some k ∧ ∀ xs', RepN G F xs' (putN l k d) → Q (upd H a (DicO G.w a xs'))) ∨
   ∃ a xs k, o = .ref a ∧ H a = some (.dK xs) ∧ xs.length < sizeLine ∧ i = kV k ∧ Q (upd H a (.dK (putK xs k v))))
theorem set_dict (hK : X.K = G.K) (hw : X.w = G.w) (hu : X.A.units + 100 < cLine) : PSet X (PSd G) := by
  intro pins s σ H o i v ov iv u Q I ro ri rv ⟨F, d, sm, hv, h⟩
  rcases h with ⟨a, xs, l, c, k, rfl, h1, h2, h3, h4, h5, h6, h7, q⟩ | ⟨a, xs, k, rfl, h1, h2, rfl, q⟩
  · cases ro
    obtain ⟨b, rfl⟩ := key_ref h6 h7
    cases ri
    refine wpAny_setItem_heap (knd := nestedKind X.prog X.w) (hsz := by rw [h5.len]; omega) ?_ (key_is hK I sm h6 h7) (dic_of hK hw I sm h1 h4 h5) fun h' dd' hs => ?_
    · show X.A.in1.units + 8 < cLine
      have : X.A.in1.units = X.A.units + 1 := rfl
      omega
    · refine ⟨_, d_write I (by rw [h1]; exact True.intro) hs (let ⟨q, _, _, hq, _⟩ := dd'; ⟨q, hq⟩) ?_, q _ (h5.put h6 h7 rv hv)⟩
      rw [← hw]
      exact dicO_ok dd'
  · cases ro
    exact d_setItem (by omega) I (DPut.k h1 h2) ri rv fun s' I' => ⟨_, I', q⟩
/-! ### displays -/
theorem dic_empty {P : Program} {w : World} {H : Hp} (h : Heap) : ObjOk P w H (h.push { cls := .type "dict", data := .dict #[] }) h.objs.size (DicO w h.objs.size []) :=
  dicO_ok (P := P) (Heap.DictOfH.new h)
def tDNewN (G : Adr) : TE := fun _ H Q => ∀ p, H p = none → (p == sysModules) = false → Q (.ref p) (upd H p (DicO G.w p []))
theorem pe_dnewN {pos : Pos} (hw : X.w = G.w) : PE X (.Dict [] [] pos) (tDNewN G) := ⟨fun pins s σ H Q I h =>
  wpAny_Dict_empty ⟨.ref s.heap.objs.size, _, I.laid (a := s.heap.objs.size) (o := DicO G.w s.heap.objs.size []) (t' := s.toks) (fun _ _ q => Heap.get?_push_of_some _ q) (Nat.le_refl _) (by rw [← hw]; exact dic_empty s.heap), rfl, h _ (I.hok.fresh (Nat.le_refl _)) (beq_eq_false_iff_ne.mpr (Ne.symm (Nat.ne_of_lt I.big)))⟩⟩
def tDic1 (G : Adr) (tk tv : TE) : TE := fun σ H Q => ∀ p, H p = none → (p == sysModules) = false → tPairs [(tk, tv)] σ (upd H p (DicO G.w p [])) fun ps H2 => ∃ x y, ps = [(x, y)] ∧ H2 p = some (DicO G.w p []) ∧ ∃ F kd k d, Same F H2 ∧ Rep G F x kd ∧ keyN kd = some k ∧ Rep G F y d ∧ ∀ xs, RepN G F xs [(k, d)] → Q (.ref p) (upd H2 p (DicO G.w p xs))
theorem wpAny_Dict_exact {P : Program} {w : World} {K : Type} [DecidableEq K] {knd : HeapKind P w K} {A : Around} {E : Value → Shared → Prop} {s : Shared} {env : PySem.Env} {keys : List (Option Expr)} {values : List Expr} {pos : Pos} {pairs : List (Sem Value × Sem Value)} {Q : Value → Shared → Prop} (hu : knd.room A)
    (hshape : (evalEachOpt keys env).zip ((evalEach values env).map fun v => do let x ← v; standAt pos; pure x) = pairs.map fun p => (some p.1, p.2)) (h0 : pairs ≠ []) (hlen : pairs.length ≤ 15)
    (h : wpAny (model P w) A (evalPairs pairs) (fun vs s₁ => ∃ ps, CarriesH knd s₁.heap vs ps ∧ s₁.heap.DictOfH knd s.heap.objs.size [] ∧
      ∀ h' tk, h'.DictOfH knd s.heap.objs.size (storedAllH [] ps) → Heap.SameBut s.heap.objs.size s₁.heap h' → Q (.ref s.heap.objs.size) { s₁ with heap := h', toks := tk }) E
      { s with heap := s.heap.push { cls := .type "dict", data := .dict #[] } }) :
    wpAny (model P w) A (eval (.Dict keys values pos) env) Q E s := by
  rw [arm_eval_Dict, hshape, dictDisplay_pairs pairs h0 (by omega)]
  exact wpAny_bind (wpAny_standAt (wpAny_bind (wpAny_subDictH (knd := knd) (Q := fun d s' => wpAny (model P w) A (pure (Value.ref d)) Q E s') hu hlen
    (wpAny_mono h (fun vs s₁ h₁ => by obtain ⟨ps, hc, hm, hq⟩ := h₁; exact ⟨ps, hc, hm, fun h' tk a b => wpAny_pure (hq h' tk a b)⟩) fun _ _ e => e))))
theorem pe_dic1 {pos : Pos} {ek ev : Expr} {tk tv : TE} (hK : X.K = G.K) (hw : X.w = G.w) (hu : X.A.units + 100 < cLine) (hk : PE X ek tk) (hv : PE X ev tv) : PE X (.Dict [some ek] [ev] pos) (tDic1 G tk tv) := by
  refine ⟨fun pins s σ H Q I q => ?_⟩
  have hn := I.hok.fresh (Nat.le_refl s.heap.objs.size)
  have hsys : (s.heap.objs.size == sysModules) = false := beq_eq_false_iff_ne.mpr (Ne.symm (Nat.ne_of_lt I.big))
  have I1 := I.laid (a := s.heap.objs.size) (o := DicO G.w s.heap.objs.size []) (h' := s.heap.push { cls := .type "dict", data := .dict #[] }) (t' := s.toks) (fun _ _ q => Heap.get?_push_of_some _ q) (Nat.le_refl _) (by rw [← hw]; exact dic_empty s.heap)
  refine wpAny_Dict_exact (knd := nestedKind X.prog X.w) (pairs := pairTrees [some ek] [ev] X.env pos) (show X.A.units + 8 < cLine by omega) (zip_pairTrees [some ek] [ev] X.env pos rfl rfl) (by intro z; cases z) (by show 1 ≤ 15; omega) ?_
  refine thn ((pps_cons hk hv pps_nil).run pins _ σ _ (fun ps H2 => ∃ x y, ps = [(x, y)] ∧ H2 s.heap.objs.size = some (DicO G.w s.heap.objs.size []) ∧ ∃ F kd k d, Same F H2 ∧ Rep G F x kd ∧ keyN kd = some k ∧ Rep G F y d ∧ ∀ xs, RepN G F xs [(k, d)] → Q (.ref s.heap.objs.size) (upd H2 s.heap.objs.size (DicO G.w s.heap.objs.size xs))) I1 ?_) ?_
  · exact q _ hn hsys
  · intro ws s2 ⟨ps, H2, I2, rel, x, y, ep, h1, F, kd, k, d, sm, hx, hkd, hy, fin⟩
    subst ep
    cases rel with
    | cons r1 r2 =>
      cases r2
      rename_i ab
      obtain ⟨a1, u1⟩ := ab
      obtain ⟨b, rfl⟩ := key_ref hx hkd
      cases (show a1 = Value.ref b from r1.1)
      have ki := key_is hK I2 sm hx hkd
      have d0 := dic_of (l := []) hK hw I2 sm h1 List.nodup_nil .nil
      refine ⟨[(k, b, u1)], ⟨rfl, rfl, ki, trivial⟩, d0, fun h' tk dd hs => ⟨.ref s.heap.objs.size, _, d_write I2 (by rw [h1]; exact True.intro) hs (let ⟨q, _, _, hq, _⟩ := dd; ⟨q, hq⟩) ?_, rfl, fin _ (.cons hx hkd r1.2 hy .nil)⟩⟩
      rw [← hw]
      exact dicO_ok (P := X.prog) dd
end
end Ev

set_option Elab.async false
set_option linter.all false
set_option maxRecDepth 100000
set_option maxHeartbeats 1000000
namespace Ev
open PySem PySem.Spec L2
open PyProof.Rows hiding St
section
variable {X : Cx} {G : Adr} {F H : Hp}
theorem roomIn {d : PyData} {k m : Nat} (h : SeqAt.shaped d = true) (hu : k + 100 < cLine) : k + 1 + min m d.depth < cLine := by
  have h1 := SeqAt.depth_of_shaped h
  have h2 : min m d.depth ≤ d.depth := Nat.min_le_right _ _
  omega
theorem inD_ok {c d : D} {k : Bool} (h : inD c d = some k) : (∃ x ys, toPy c = some x ∧ ((∃ l, d = .lst l ∧ toPyL l = some ys ∧ SeqAt.shaped (.list ys) = true) ∨ ∃ l, d = .tup l ∧ toPyL l = some ys ∧ SeqAt.shaped (.tuple ys) = true) ∧ SeqAt.shaped x = true ∧ k = ys.any fun z => PyData.eqv z x) ∨
    (∃ l kk, d = .dct l ∧ keyD c = some kk ∧ k = (lookK l kk).isSome) ∨ ∃ l kk, d = .dic l ∧ keyN c = some kk ∧ k = (lookN l kk).isSome := by
  unfold inD at h
  split at h
  · rename_i l
    cases e : keyD c with
    | none => rw [e] at h; cases h
    | some kk => rw [e] at h; cases h; exact .inr (.inl ⟨l, kk, rfl, rfl, rfl⟩)
  · rename_i l
    cases e : keyN c with
    | none => rw [e] at h; cases h
    | some kk => rw [e] at h; cases h; exact .inr (.inr ⟨l, kk, rfl, rfl, rfl⟩)
  · rename_i l
    split at h
    · rename_i x ys e1 e2
      split at h
      · rename_i s
        cases h
        obtain ⟨s1, s2⟩ := Bool.and_eq_true_iff.mp s
        exact .inl ⟨x, ys, e1, .inl ⟨l, rfl, e2, s2⟩, s1, rfl⟩
      · cases h
    · cases h
  · rename_i l
    split at h
    · rename_i x ys e1 e2
      split at h
      · rename_i s
        cases h
        obtain ⟨s1, s2⟩ := Bool.and_eq_true_iff.mp s
        exact .inl ⟨x, ys, e1, .inr ⟨l, rfl, e2, s2⟩, s1, rfl⟩
      · cases h
    · cases h
  · cases h
theorem RepK.lookS {F : Hp} {k : Key} : ∀ {l : List (Key × D)} {xs : List (Key × V)}, RepK G F xs l → (valV xs k).isSome = (lookK l k).isSome
  | _, _, .nil => rfl
  | (j, d') :: r, (_, v) :: t, .cons h rr => by
    by_cases hk : j = k
    · have e2 : lookK ((j, d') :: r) k = some d' := by simp [lookK, List.find?_cons, hk]
      rw [e2, valV_pos (p := (j, v)) hk]
      rfl
    · have e2 : lookK ((j, d') :: r) k = lookK r k := by simp [lookK, List.find?_cons, hk]
      rw [e2, valV_neg (p := (j, v)) hk]
      exact rr.lookS
theorem keyD_ok {x : V} {d : D} {k : Key} (h : BRep G F H x d) (e : keyD d = some k) : x = kV k := by
  cases d <;> first
    | (cases e; done)
    | (cases e; first | exact h.int | exact h.str)
theorem keyN_rep {x : V} {d : D} {k : NestedKey} (h : BRep G F H x d) (e : keyN d = some k) : Rep G F x d := by
  obtain ⟨l, rfl, _⟩ := keyN_tup e
  exact h.flat (fun _ => by simp) (fun _ => by simp)
theorem toPy_lst {l : List D} {ys : List PyData} (h : toPyL l = some ys) : toPy (.lst l) = some (.list ys) := by
  show (toPyL l).map PyData.list = _
  rw [h]; rfl
theorem toPy_tup {l : List D} {ys : List PyData} (h : toPyL l = some ys) : toPy (.tup l) = some (.tuple ys) := by
  show (toPyL l).map PyData.tuple = _
  rw [h]; rfl
theorem op_inAll (hK : X.K = G.K) (hw : X.w = G.w) (hu : X.A.units + 100 < cLine) : OpR X (compareOp .In) (P2 G fun c d => vP .bl (inD c d)) := by
  intro pins s σ H x y v u Q I rx ry h
  obtain ⟨F, c, d, pr, sm, hc, hd, e, q⟩ := h
  dsimp only at e
  cases ek : inD c d with
  | none => rw [ek] at e; cases e
  | some k =>
    rw [ek] at e
    cases e
    rcases inD_ok ek with ⟨x', ys, e1, e2, s1, rfl⟩ | ⟨l, kk, rfl, e1, rfl⟩ | ⟨l, kk, rfl, e1, rfl⟩
    rotate_left
    · obtain ⟨a, xs, rfl, h1, r1⟩ := hd.dct sm
      obtain rfl := keyD_ok hc e1
      cases ry
      refine d_in (by omega) I (DGet.k h1) rx fun s' I' => ⟨.bl _, H, I', rfl, ?_⟩
      rw [r1.lookS]
      exact q _ F H (.bl sm)
    · obtain ⟨a, xs, rfl, h1, h2, h3, h4, r1⟩ := hd.dic sm
      cases ry
      exact op_inN hK hw hu rfl I sm rx (keyN_rep hc e1) e1 h1 h2 h4 r1 fun s' I' => ⟨.bl _, H, I', rfl, q _ F H (.bl sm)⟩
    obtain ⟨as, r1⟩ := Dp.reads I _ x v (by rw [hK]; exact hc.dp sm e1) rx
    rcases e2 with ⟨l, rfl, e2, s2⟩ | ⟨l, rfl, e2, s2⟩
    · obtain ⟨bs, r2⟩ := Dp.reads I _ y u (by rw [hK]; exact hd.dp sm (toPy_lst e2)) ry
      exact SeqAt.in_list_reads r2 r1 (SeqAt.canLay_of_shaped s2) (SeqAt.canLay_of_shaped s1) (roomIn s1 hu) ⟨.bl _, H, I, rfl, q _ F H (.bl sm)⟩
    · obtain ⟨bs, r2⟩ := Dp.reads I _ y u (by rw [hK]; exact hd.dp sm (toPy_tup e2)) ry
      exact SeqAt.in_tuple_reads r2 r1 (SeqAt.canLay_of_shaped s2) (SeqAt.canLay_of_shaped s1) (roomIn s1 hu) ⟨.bl _, H, I, rfl, q _ F H (.bl sm)⟩
theorem op_notInAll (hK : X.K = G.K) (hw : X.w = G.w) (hu : X.A.units + 100 < cLine) : OpR X (compareOp .NotIn) (P2 G fun c d => vP .bl ((inD c d).map (!·))) := by
  intro pins s σ H x y v u Q I rx ry h
  obtain ⟨F, c, d, pr, sm, hc, hd, e, q⟩ := h
  dsimp only at e
  cases ek : inD c d with
  | none => rw [ek] at e; cases e
  | some k =>
    rw [ek] at e
    cases e
    rcases inD_ok ek with ⟨x', ys, e1, e2, s1, rfl⟩ | ⟨l, kk, rfl, e1, rfl⟩ | ⟨l, kk, rfl, e1, rfl⟩
    rotate_left
    · obtain ⟨a, xs, rfl, h1, r1⟩ := hd.dct sm
      obtain rfl := keyD_ok hc e1
      cases ry
      refine d_notIn (by omega) I (DGet.k h1) rx fun s' I' => ⟨.bl _, H, I', rfl, ?_⟩
      rw [r1.lookS]
      exact q _ F H (.bl sm)
    · obtain ⟨a, xs, rfl, h1, h2, h3, h4, r1⟩ := hd.dic sm
      cases ry
      exact op_notInN hK hw hu rfl I sm rx (keyN_rep hc e1) e1 h1 h2 h4 r1 fun s' I' => ⟨.bl _, H, I', rfl, q _ F H (.bl sm)⟩
    obtain ⟨as, r1⟩ := Dp.reads I _ x v (by rw [hK]; exact hc.dp sm e1) rx
    rcases e2 with ⟨l, rfl, e2, s2⟩ | ⟨l, rfl, e2, s2⟩
    · obtain ⟨bs, r2⟩ := Dp.reads I _ y u (by rw [hK]; exact hd.dp sm (toPy_lst e2)) ry
      exact SeqAt.notIn_list_reads r2 r1 (SeqAt.canLay_of_shaped s2) (SeqAt.canLay_of_shaped s1) (roomIn s1 hu) ⟨.bl _, H, I, rfl, q _ F H (.bl sm)⟩
    · obtain ⟨bs, r2⟩ := Dp.reads I _ y u (by rw [hK]; exact hd.dp sm (toPy_tup e2)) ry
      exact SeqAt.notIn_tuple_reads r2 r1 (SeqAt.canLay_of_shaped s2) (SeqAt.canLay_of_shaped s1) (roomIn s1 hu) ⟨.bl _, H, I, rfl, q _ F H (.bl sm)⟩
theorem eqA_ok {c d : D} {k : Bool} (h : eqA c d = some k) : ∃ x y, toPy c = some x ∧ toPy d = some y ∧ SeqAt.shaped x = true ∧ SeqAt.shaped y = true ∧ k = PyData.eqv x y := by
  unfold eqA at h
  split at h
  · rename_i x y e1 e2
    split at h
    · rename_i s
      cases h
      obtain ⟨s1, s2⟩ := Bool.and_eq_true_iff.mp s
      exact ⟨x, y, e1, e2, s1, s2, rfl⟩
    · cases h
  · cases h
theorem eqD_ok {c d : D} {k : Bool} (h : eqD c d = some k) : (∃ a b, c = .str a ∧ d = .str b ∧ k = decide (a = b)) ∨ ∃ x y, toPy c = some x ∧ toPy d = some y ∧ SeqAt.shaped x = true ∧ SeqAt.shaped y = true ∧ k = PyData.eqv x y := by
  unfold eqD at h
  cases c with
  | str a =>
    cases d with
    | str b => cases h; exact .inl ⟨a, b, rfl, rfl, rfl⟩
    | _ => exact .inr (eqA_ok h)
  | _ => exact .inr (eqA_ok h)
theorem op_eqAll (hK : X.K = G.K) (hu : X.A.units + 100 < cLine) : OpR X (compareOp .Eq) (P2 G fun c d => vP .bl (eqD c d)) := by
  intro pins s σ H x y v u Q I rx ry h
  obtain ⟨F, c, d, pr, sm, hc, hd, e, q⟩ := h
  dsimp only at e
  cases ek : eqD c d with
  | none => rw [ek] at e; cases e
  | some k =>
    rw [ek] at e
    cases e
    rcases eqD_ok ek with ⟨a, b, rfl, rfl, rfl⟩ | ⟨x', y', e1, e2, s1, s2, rfl⟩
    · obtain rfl := hc.str; obtain rfl := hd.str
      have q := q (.bl (decide (a = b))) F H (.bl sm)
      exact op_eq pins s σ H _ _ v u Q I rx ry ⟨rfl, by rw [decide_eq_decide.mpr (show V.str a = V.str b ↔ a = b from ⟨fun h => by cases h; rfl, fun h => by rw [h]⟩)]; exact q⟩
    exact op_eqD (by omega) pins s σ H x y v u Q I rx ry ⟨x', y', by rw [hK]; exact hc.dp sm e1, by rw [hK]; exact hd.dp sm e2, s1, s2, q _ F H (.bl sm)⟩
theorem op_neAll (hK : X.K = G.K) (hu : X.A.units + 100 < cLine) : OpR X (compareOp .NotEq) (P2 G fun c d => vP .bl ((eqD c d).map (!·))) := by
  intro pins s σ H x y v u Q I rx ry h
  obtain ⟨F, c, d, pr, sm, hc, hd, e, q⟩ := h
  dsimp only at e
  cases ek : eqD c d with
  | none => rw [ek] at e; cases e
  | some k =>
    rw [ek] at e
    cases e
    rcases eqD_ok ek with ⟨a, b, rfl, rfl, rfl⟩ | ⟨x', y', e1, e2, s1, s2, rfl⟩
    · obtain rfl := hc.str; obtain rfl := hd.str
      have q := q (.bl (!decide (a = b))) F H (.bl sm)
      exact op_ne pins s σ H _ _ v u Q I rx ry ⟨rfl, by rw [decide_eq_decide.mpr (show V.str a = V.str b ↔ a = b from ⟨fun h => by cases h; rfl, fun h => by rw [h]⟩)]; exact q⟩
    exact op_neD (by omega) pins s σ H x y v u Q I rx ry ⟨x', y', by rw [hK]; exact hc.dp sm e1, by rw [hK]; exact hd.dp sm e2, s1, s2, q _ F H (.bl sm)⟩
theorem BRep.isNon {x : V} {d : D} (h : BRep G F H x d) : decide (x = .non) = (match d with | .non => true | _ => false) := by
  rcases h with h | ⟨a, u, o, rfl, h1, h2, rfl⟩
  · cases h <;> simp
  · cases h2 <;> simp [Ob.toD]
theorem op_cmpD (hK : X.K = G.K) (hw : X.w = G.w) (hu : X.A.units + 100 < cLine) (op : CmpOp) : OpR X (compareOp op) (P2 G fun c d => vP .bl (cmpD op c d)) := by
  cases op with
  | Eq => exact op_eqAll hK hu
  | NotEq => exact op_neAll hK hu
  | In => exact op_inAll hK hw hu
  | NotIn => exact op_notInAll hK hw hu
  | Lt | LtE | Gt | GtE =>
    intro pins s σ H x y v u Q I rx ry h
    obtain ⟨F, c, d, pr, sm, hc, hd, e, q⟩ := h
    cases c <;> cases d <;> first
      | (cases e; done)
      | (obtain rfl := hc.int; obtain rfl := hd.int; cases e; first
        | exact op_lt pins s σ H _ _ v u Q I rx ry ⟨_, _, rfl, rfl, q _ F H (.bl sm)⟩
        | exact op_le pins s σ H _ _ v u Q I rx ry ⟨_, _, rfl, rfl, q _ F H (.bl sm)⟩
        | exact op_gt pins s σ H _ _ v u Q I rx ry ⟨_, _, rfl, rfl, q _ F H (.bl sm)⟩
        | exact op_ge pins s σ H _ _ v u Q I rx ry ⟨_, _, rfl, rfl, q _ F H (.bl sm)⟩)
  | Is =>
    intro pins s σ H x y v u Q I rx ry h
    obtain ⟨F, c, d, pr, sm, hc, hd, e, q⟩ := h
    cases d <;> first
      | (cases c <;> cases e; done)
      | (obtain rfl := hd.non
         refine op_isN pins s σ H _ _ v u Q I rx ry ⟨rfl, ?_⟩
         rw [hc.isNon]
         cases c <;> (cases e; exact q _ F H (.bl sm)))
  | IsNot =>
    intro pins s σ H x y v u Q I rx ry h
    obtain ⟨F, c, d, pr, sm, hc, hd, e, q⟩ := h
    cases d <;> first
      | (cases c <;> cases e; done)
      | (obtain rfl := hd.non
         refine op_notN pins s σ H _ _ v u Q I rx ry ⟨rfl, ?_⟩
         rw [hc.isNon]
         cases c <;> (cases e; exact q _ F H (.bl sm)))

/-! ### subscripts, slices -/
theorem atI_rep {F : Hp} {xs : List V} {l : List D} {i : Int} {d : D} (r : RepL G F xs l) (h : atI l i = some d) : ∃ v, atI xs i = some v ∧ Rep G F v d := by
  unfold atI at h ⊢
  rw [r.length]
  cases q : ixN l.length i with
  | none => rw [q] at h; cases h
  | some j =>
    rw [q] at h
    exact r.get h
theorem RepK.lookD {F : Hp} {k : Key} : ∀ {l : List (Key × D)} {xs : List (Key × V)}, RepK G F xs l → ∀ {d : D}, lookK l k = some d → ∃ v, valV xs k = some v ∧ Rep G F v d
  | _, _, .nil, _, e => by cases e
  | (j, d') :: r, (_, v) :: t, .cons h rr, d, e => by
    by_cases hk : j = k
    · have e2 : lookK ((j, d') :: r) k = some d' := by simp [lookK, List.find?_cons, hk]
      rw [e2] at e
      cases e
      exact ⟨v, valV_pos (p := (j, v)) hk, h⟩
    · have e2 : lookK ((j, d') :: r) k = lookK r k := by simp [lookK, List.find?_cons, hk]
      rw [e2] at e
      obtain ⟨w, h1, h2⟩ := rr.lookD e
      exact ⟨w, by rw [valV_neg (p := (j, v)) hk]; exact h1, h2⟩
theorem ix_all (hK : X.K = G.K) (hw : X.w = G.w) (hu : X.A.units + 100 < cLine) : IxR X (P2 G fun c d => vP id (ixD c d)) := by
  intro value slice pins s σ H x y v u Q I rx ry h hs
  obtain ⟨F, c, d, pr, sm, hc, hd, e, q⟩ := h
  dsimp only at e
  cases ek : ixD c d with
  | none => rw [ek] at e; cases e
  | some k =>
    rw [ek] at e
    cases e
    unfold ixD at ek
    split at ek
    · rename_i l i
      obtain rfl := hd.int
      obtain ⟨a, xs, rfl, h1, r1⟩ := hc.lst sm
      obtain ⟨w, hw, rw'⟩ := atI_rep r1 ek
      exact ix_list value slice pins s σ H _ _ v u Q I rx ry ⟨a, xs, i, w, rfl, rfl, .inl h1, hw, q _ F H (.val sm rw')⟩ hs
    · rename_i l i
      obtain rfl := hd.int
      obtain ⟨a, xs, rfl, h1, r1⟩ := hc.tup sm
      obtain ⟨w, hw, rw'⟩ := atI_rep r1 ek
      exact ix_tup value slice pins s σ H _ _ v u Q I rx ry ⟨a, xs, i, w, rfl, rfl, by rw [hK]; exact h1, hw, q _ F H (.val sm rw')⟩ hs
    · rename_i l i
      obtain rfl := hd.int
      obtain ⟨a, xs, rfl, h1, r1⟩ := hc.scr sm
      obtain ⟨w, hw, rw'⟩ := atI_rep r1 ek
      exact ix_list value slice pins s σ H _ _ v u Q I rx ry ⟨a, xs, i, w, rfl, rfl, by rw [hK]; exact h1, hw, q _ F H (.val sm rw')⟩ hs
    · rename_i z i
      split at ek
      · rename_i hz
        obtain rfl := hd.int
        obtain rfl := hc.str
        cases ea : atI z.cps.toList i with
        | none => rw [ea] at ek; cases ek
        | some ch =>
          rw [ea] at ek
          cases ek
          exact ix_str value slice pins s σ H _ _ v u Q I rx ry ⟨z, i, ch, rfl, rfl, hz, ea, q _ F H (.str sm)⟩ hs
      · cases ek
    · rename_i l
      cases e1 : keyD d with
      | none => rw [e1] at ek; cases ek
      | some kk =>
        rw [e1] at ek
        obtain ⟨a, xs, rfl, h1, r1⟩ := hc.dct sm
        obtain ⟨w, hw, rw'⟩ := r1.lookD ek
        obtain rfl := keyD_ok hd e1
        cases rx
        have g : DGet H a (kV kk) (some w) := by
          rw [← hw]
          exact DGet.k h1
        exact tail_any (dict_typeIs I g) PySem.F.slot_dict_getitem.lookup (d_getItem (by omega) I g ry fun w' s3 I3 rw2 => ⟨w, H, I3, rw2, q _ F H (.val sm rw')⟩) hs
    · rename_i l
      cases e1 : keyN d with
      | none => rw [e1] at ek; cases ek
      | some kk =>
        rw [e1] at ek
        obtain ⟨a, xs, rfl, h1, h2, h3, h4, r1⟩ := hc.dic sm
        cases rx
        exact tail_any (dic_typeIs hK hw I sm h1 h4 r1) PySem.F.slot_dict_getitem.lookup (dic_getItem hK hw hu I sm ry (keyN_rep hd e1) e1 h1 h4 r1 ek fun w' v s3 I3 rw2 rw3 => ⟨v, H, I3, rw2, q _ F H (.val sm rw3)⟩) hs
    · cases ek
theorem cut_rep {F : Hp} {xs : List V} {l : List D} (r : RepL G F xs l) (lo hi : Option Int) : RepL G F (cutV xs lo hi) (cutD l lo hi) := by
  unfold cutV cutD
  rw [r.length]
  exact (r.drop _).take _
/-- a[lo:hi] by data -/
def PSl (G : Adr) : V → Option Int → Option Int → Hp → VK → Prop := fun x lo hi H Q => ∃ F c pr, Same F H ∧ BRep G F H x c ∧ slD lo hi c = some pr ∧ ∀ v F' H', PPost G F H pr v F' H' → Q v H'
theorem sl_all (hK : X.K = G.K) : L2.SlR X (PSl G) := by
  intro pins s σ H x v vl vu lo hi sl Q I rx hs pl pu h
  obtain ⟨F, c, pr, sm, hc, e, q⟩ := h
  unfold slD at e
  split at e
  · rename_i l
    cases e
    obtain ⟨a, xs, rfl, h1, r1⟩ := hc.lst sm
    exact sl_list pins s σ H _ v vl vu lo hi sl Q I rx hs pl pu ⟨a, xs, rfl, .inl h1, fun p hp => q _ _ _ (.new sm hp (.lst (cut_rep r1 lo hi)))⟩
  · rename_i l
    cases e
    obtain ⟨a, xs, rfl, h1, r1⟩ := hc.tup sm
    have rc := hc.flat (fun _ => by simp) (fun _ => by simp)
    by_cases w : HT.sIx xs.length 0 lo = 0 ∧ HT.sIx xs.length xs.length hi = xs.length
    · have e0 : cutD l lo hi = l := by
        unfold cutD
        rw [← r1.length, w.1, w.2, r1.length]
        simp
      rw [e0] at q
      refine sl_tupA pins s σ H _ v vl vu lo hi sl Q I rx hs pl pu ⟨a, xs, rfl, by rw [hK]; exact h1, fun _ => q _ F H (.val sm rc), fun z => absurd w z⟩
    · refine sl_tupA pins s σ H _ v vl vu lo hi sl Q I rx hs pl pu ⟨a, xs, rfl, by rw [hK]; exact h1, fun z => absurd z w, fun _ p hp => q _ _ _ (.tup sm hp (cut_rep r1 lo hi))⟩
  · cases e

/-! ### truth -/
theorem tru_all (hK : X.K = G.K) : ∀ {x : V} {d : D} {k : Bool}, Same F H → BRep G F H x d → truthD d = some k → TruV X.K x H k := by
  intro x d k sm h e
  cases d with
  | non => cases e; obtain rfl := h.non; exact rfl
  | bl b => cases e; obtain rfl := h.bl; exact rfl
  | int i => cases e; obtain rfl := h.int; exact rfl
  | str z =>
    have e : (if z.length ≤ sizeLine then some (z.length != 0) else none) = some k := e
    split at e
    · rename_i hz
      cases e
      obtain rfl := h.str
      refine ⟨hz, ?_⟩
      by_cases q : z.length = 0
      · rw [q]; rfl
      · rw [bne_iff_ne.mpr q]
        exact (bne_iff_ne.mpr (by omega)).symm
    · cases e
  | tup l =>
    cases e
    obtain ⟨a, xs, rfl, h1, r1⟩ := h.tup sm
    refine .inr (.inl ⟨xs, by rw [hK]; exact h1, ?_⟩)
    cases r1 <;> rfl
  | lst l =>
    cases e
    obtain ⟨a, xs, rfl, h1, r1⟩ := h.lst sm
    refine .inl ⟨xs, .inl h1, ?_⟩
    cases r1 <;> rfl
  | fn _ => cases e
  | dct _ => cases e
  | scr _ => cases e
  | dic _ => cases e
end
end Ev

set_option Elab.async false
set_option linter.all false
set_option maxRecDepth 100000
set_option maxHeartbeats 1000000
namespace Ev
open PySem PySem.Spec L2
open PyProof.Rows hiding St
/-- a builtin's name, its value -/
def biN : Bi → String
  | .len => "len" | .abs => "abs" | .int => "int" | .str => "str" | .repr => "repr" | .tuple => "tuple" | .list => "list" | .sorted => "sorted" | .sum => "sum" | .min => "min" | .max => "max" | .any => "any" | .all => "all"
def biT : Bi → Bool
  | .int | .str | .tuple | .list => true
  | _ => false
def biV (b : Bi) : Value := if biT b then .type (biN b) else .builtin (biN b)
theorem bi_boot (b : Bi) : bootBuiltins (biN b : Str) = some (biV b) := by
  cases b <;> decide +kernel
section
variable {X : Cx} {G : Adr} {F H : Hp}
theorem intsD_ok : ∀ {l : List D} {ns : List Int}, intsD l = some ns → l = ns.map D.int
  | [], ns, e => by cases e; rfl
  | d :: r, ns, e => by
    cases d <;> first
      | (cases e; done)
      | skip
    rename_i i
    have e : (intsD r).map (i :: ·) = some ns := e
    cases q : intsD r with
    | none => rw [q] at e; cases e
    | some ms =>
      rw [q] at e
      cases e
      rw [intsD_ok q]; rfl
theorem blsD_ok : ∀ {l : List D} {ns : List Bool}, blsD l = some ns → l = ns.map D.bl
  | [], ns, e => by cases e; rfl
  | d :: r, ns, e => by
    cases d <;> first
      | (cases e; done)
      | skip
    rename_i i
    have e : (blsD r).map (i :: ·) = some ns := e
    cases q : blsD r with
    | none => rw [q] at e; cases e
    | some ms =>
      rw [q] at e
      cases e
      rw [blsD_ok q]; rfl
theorem RepL.ints : ∀ {ns : List Int} {xs : List V}, RepL G F xs (ns.map D.int) → xs = ns.map V.int
  | [], _, .nil => rfl
  | n :: ns, _, .cons h r => by
    cases h
    rw [r.ints]; rfl
theorem RepL.bls : ∀ {ns : List Bool} {xs : List V}, RepL G F xs (ns.map D.bl) → xs = ns.map V.bl
  | [], _, .nil => rfl
  | n :: ns, _, .cons h r => by
    cases h
    rw [r.bls]; rfl
theorem RepL.ofInts : ∀ (ns : List Int), RepL G F (ns.map V.int) (ns.map D.int)
  | [] => .nil
  | n :: ns => .cons (.int n) (RepL.ofInts ns)
theorem max_mem : ∀ (r : List Int) (x : Int), (r.foldl max x = x ∨ r.foldl max x ∈ r) ∧ x ≤ r.foldl max x ∧ ∀ y ∈ r, y ≤ r.foldl max x
  | [], x => ⟨.inl rfl, Int.le_refl _, fun _ h => nomatch h⟩
  | z :: r, x => by
    obtain ⟨h1, h2, h3⟩ := max_mem r (max x z)
    refine ⟨?_, ?_, fun y hy => ?_⟩
    · rcases h1 with h1 | h1
      · rw [List.foldl_cons, h1]
        by_cases q : x ≤ z
        · rw [Int.max_eq_right q]; exact .inr List.mem_cons_self
        · rw [Int.max_eq_left (by omega)]; exact .inl rfl
      · exact .inr (List.mem_cons_of_mem _ h1)
    · exact Int.le_trans (Int.le_max_left _ _) h2
    · rcases List.mem_cons.mp hy with e | hy
      · rw [e]; exact Int.le_trans (Int.le_max_right _ _) h2
      · exact h3 y hy
theorem min_mem : ∀ (r : List Int) (x : Int), (r.foldl min x = x ∨ r.foldl min x ∈ r) ∧ r.foldl min x ≤ x ∧ ∀ y ∈ r, r.foldl min x ≤ y
  | [], x => ⟨.inl rfl, Int.le_refl _, fun _ h => nomatch h⟩
  | z :: r, x => by
    obtain ⟨h1, h2, h3⟩ := min_mem r (min x z)
    refine ⟨?_, ?_, fun y hy => ?_⟩
    · rcases h1 with h1 | h1
      · rw [List.foldl_cons, h1]
        by_cases q : x ≤ z
        · rw [Int.min_eq_left q]; exact .inl rfl
        · rw [Int.min_eq_right (by omega)]; exact .inr List.mem_cons_self
      · exact .inr (List.mem_cons_of_mem _ h1)
    · exact Int.le_trans h2 (Int.min_le_left _ _)
    · rcases List.mem_cons.mp hy with e | hy
      · rw [e]; exact Int.le_trans h2 (Int.min_le_right _ _)
      · exact h3 y hy
theorem sorted_unique : ∀ {a b : List Int}, a.Perm b → a.Pairwise (· ≤ ·) → b.Pairwise (· ≤ ·) → a = b
  | [], b, p, _, _ => (List.Perm.nil_eq p)
  | x :: a, [], p, _, _ => absurd p.length_eq (by simp)
  | x :: a, y :: b, p, ha, hb => by
    obtain ⟨ha1, ha2⟩ := List.pairwise_cons.mp ha
    obtain ⟨hb1, hb2⟩ := List.pairwise_cons.mp hb
    have e : x = y := by
      have m1 : x ∈ y :: b := p.subset List.mem_cons_self
      have m2 : y ∈ x :: a := p.symm.subset List.mem_cons_self
      rcases List.mem_cons.mp m1 with e | m1
      · exact e
      · rcases List.mem_cons.mp m2 with e | m2
        · exact e.symm
        · exact Int.le_antisymm (ha1 y m2) (hb1 x m1)
    subst e
    rw [sorted_unique (List.Perm.cons_inv p) ha2 hb2]
theorem leI_trans (a b c : Int) (h1 : leI a b = true) (h2 : leI b c = true) : leI a c = true := by
  unfold leI at *
  simp only [decide_eq_true_eq] at *
  omega
theorem leI_total (a b : Int) : (leI a b || leI b a) = true := by
  unfold leI
  simp only [Bool.or_eq_true, decide_eq_true_eq]
  omega
theorem sort_sorted (l : List Int) : (l.mergeSort leI).Pairwise (· ≤ ·) := by
  have h := List.pairwise_mergeSort leI_trans leI_total l
  exact h.imp fun h => by unfold leI at h; simpa using h
theorem toPyL_map : ∀ {l : List D} {ys : List PyData}, toPyL l = some ys → ys = l.map pyD ∧ ∀ d ∈ l, toPy d = some (pyD d)
  | [], _, e => by cases e; exact ⟨rfl, fun d hd => by cases hd⟩
  | d :: l, ys, e => by
    have e : (match toPy d with
      | some x => (toPyL l).map (x :: ·)
      | none => none) = some ys := e
    cases q : toPy d with
    | none => rw [q] at e; cases e
    | some p =>
      rw [q] at e
      have e : (toPyL l).map (p :: ·) = some ys := e
      cases q2 : toPyL l with
      | none => rw [q2] at e; cases e
      | some ts =>
        rw [q2] at e
        cases e
        obtain ⟨h1, h2⟩ := toPyL_map q2
        have pd : pyD d = p := by unfold pyD; rw [q]; rfl
        refine ⟨by rw [List.map_cons, pd, h1], fun x hx => ?_⟩
        rcases List.mem_cons.mp hx with rfl | hx
        · rw [pd]; exact q
        · exact h2 x hx
theorem each_rep {F : Hp} : ∀ {l : List D} {ys : List V} {its : List Value}, RepL G F ys l → Vals ys its → PySem.W.EachIs (fun u d => ∃ v, RelV v u ∧ Rep G F v d) its l
  | _, _, _, .nil, r => by cases r; exact .nil
  | _, _, _, .cons h t, r => by
    cases r with
    | cons r1 r2 => exact .cons ⟨_, r1, h⟩ (each_rep t r2)
theorem each_back {F : Hp} : ∀ {l : List D} {its : List Value}, PySem.W.EachIs (fun u d => ∃ v, RelV v u ∧ Rep G F v d) its l → ∃ ys, Vals ys its ∧ RepL G F ys l
  | _, _, .nil => ⟨[], .nil, .nil⟩
  | _, _, .cons ⟨v, h1, h2⟩ t => by
    obtain ⟨ys, a, b⟩ := each_back t
    exact ⟨v :: ys, .cons h1 a, .cons h2 b⟩
theorem each_all {R R' : Value → D → Prop} : ∀ {its : List Value} {l : List D}, PySem.W.EachIs R its l → (∀ u d, d ∈ l → R u d → R' u d) → PySem.W.EachIs R' its l
  | _, _, .nil, _ => .nil
  | _, _, .cons h t, f => .cons (f _ _ List.mem_cons_self h) (each_all t fun u d hd => f u d (List.mem_cons_of_mem _ hd))
theorem sortsOne {P : Program} {w : World} {A : Around} {s : Shared} {v : Value} {d : PyData} {as : List Addr} (r : Reads s.heap v d as) (ha : PySem.W.alike d d = true) (hn : d ≠ .none) (hu : A.units + d.depth < cLine) : PySem.W.SortsAt P w A s (PySem.W.dataKind s.heap [d]) [v] := by
  have hal : PySem.W.AllAlike [d] := fun x hx y hy => by rw [List.mem_singleton.mp hx, List.mem_singleton.mp hy]; exact ha
  refine ⟨fun u hv => ?_, PyProof.Rows.general', ?_, fun h2 => absurd h2 (by simp)⟩
  · rw [List.mem_singleton.mp hv]
    exact ⟨_, PySem.W.dataKind_some hal (List.mem_singleton.mpr rfl) r⟩
  · intro E x y a b Q h1 h2 hq
    obtain ⟨d1, as1, hd1, r1, rfl⟩ := PySem.W.dataKind_inv h1
    obtain ⟨d2, as2, hd2, r2, rfl⟩ := PySem.W.dataKind_inv h2
    cases List.mem_singleton.mp hd1
    cases List.mem_singleton.mp hd2
    show wpAny (model P w) A (PyProof.Rows.oneLt' false x y) Q E s
    exact PySem.W.oneLt_alike (fun z => by cases z) r1 r2 ha hn (by rw [Nat.min_self]; exact hu) hq
/-- sorted(list of tuples) -/
theorem cr_sortedD (hK : X.K = G.K) (hu : X.A.units + 100 < cLine) : CallR X (.builtin "sorted") (fun xs H Q => ∃ F a ys l py, xs = [V.ref a] ∧ Same F H ∧ Rd H a (.lst ys) ∧ RepL G F ys l ∧ toPyL l = some py ∧ sortOk py = true ∧ ∀ ys' p, RepL G F ys' (l.mergeSort leP) → H p = none → Q (.ref p) (upd H p (.lst ys'))) := by
  intro pins s σ H vs us Q I r h
  obtain ⟨F, a, ys, l, py, rfl, sm, hs, rl, ep, so, q⟩ := h
  obtain ⟨its, rv, hl, hz⟩ := I.list (.inl hs)
  rw [Vals.ref1 r]
  obtain ⟨e1, e2⟩ := toPyL_map ep
  unfold sortOk at so
  rw [Bool.and_eq_true, Bool.and_eq_true, Bool.and_eq_true] at so
  obtain ⟨⟨⟨s1, s2⟩, s3⟩, s4⟩ := so
  have e := each_rep rl rv
  have er : PySem.W.EachIs (fun v b => ∃ as, Reads s.heap v (pyD b) as) its l := each_all e fun u d hd ⟨v, h1, h2⟩ => Dp.reads I _ v u (by rw [hK]; exact h2.dp sm (e2 d hd)) h1
  have hal : PySem.W.AllAlike (l.map pyD) := fun d hd d' hd' => by
    rw [← e1] at hd hd'
    exact List.all_eq_true.mp (List.all_eq_true.mp s1 d hd) d' hd'
  have s2' : ∀ d ∈ l, isTup (pyD d) = true ∧ (pyD d).depth ≤ 64 := fun d hd => by
    have := List.all_eq_true.mp s2 (pyD d) (by rw [e1]; exact List.mem_map.mpr ⟨d, hd, rfl⟩)
    rw [Bool.and_eq_true] at this
    exact ⟨this.1, of_decide_eq_true this.2⟩
  have hL : l.length ≤ sizeLine := by
    have := of_decide_eq_true s3
    rw [e1, List.length_map] at this
    exact this
  have fin : ∀ out : List Value, out.length = l.length → PySem.W.EachIs (fun u d => ∃ v, RelV v u ∧ Rep G F v d) out (l.mergeSort leP) → ∃ v H', Inv X pins σ H' { s with heap := PyProof.Rows.sortedAll s.heap its (List.toArray out) } ∧ RelV v (.ref (s.heap.objs.size + 1)) ∧ Q v H' := fun out ho eo => by
    obtain ⟨ys', v', r'⟩ := each_back eo
    obtain ⟨ep, he'⟩ := PyProof.Rows.sortedAll_at s.heap its out.toArray
    have hlen : ys'.length ≤ sizeLine := by rw [v'.length, ho]; exact hL
    exact ⟨.ref _, upd H (s.heap.objs.size + 1) (.lst ys'), I.laid (t' := s.toks) (fun _ _ => PyProof.Rows.sortedAll_old) (Nat.le_succ _) ⟨hlen, out, ep, v', he'⟩, rfl, q _ _ r' (I.hok.fresh (Nat.le_succ _))⟩
  by_cases hone : l.length ≤ 1
  · have er' : PySem.W.EachIs (fun v b => ∃ as, Reads (PySem.W.sortingHeap (PySem.W.copyHeap s.heap its) (s.heap.objs.size + 1) its) v (pyD b) as) its l := each_all er fun _ _ _ ⟨as, r⟩ => ⟨as, PyProof.Rows.Reads.keeps (fun _ _ => PySem.W.sorting_copy_old) r⟩
    refine PySem.W.sorted_vals (κ := PySem.W.dataKind (PySem.W.sortingHeap (PySem.W.copyHeap s.heap its) (s.heap.objs.size + 1) its) (l.map pyD)) hl.isList ?_ (by rw [e.length]; exact hL) ?_
    · cases er' with
      | nil => exact PySem.W.SortsAt.data (s := { s with heap := PySem.W.sortingHeap (PySem.W.copyHeap s.heap []) (s.heap.objs.size + 1) [] }) (ds := []) .nil (fun _ h => by cases h) (.inl fun _ h => by cases h) fun _ h => by cases h
      | @cons v b its' l' hr t =>
        cases t with
        | cons _ _ => simp at hone
        | nil =>
          obtain ⟨as, r1⟩ := hr
          have hb := s2' b List.mem_cons_self
          exact sortsOne (s := { s with heap := PySem.W.sortingHeap (PySem.W.copyHeap s.heap [v]) (s.heap.objs.size + 1) [v] }) r1 (hal _ (by simp) _ (by simp)) (fun z => by rw [z] at hb; cases hb.1) (show X.A.in1.in1.units + _ < cLine by
            have e1 : X.A.in1.in1.units = X.A.units + 2 := rfl
            have := hb.2
            omega)
    · exact fin _ (by rw [PySem.W.sortVals_length false rfl]; exact e.length) (PySem.W.sortVals_data false e er' hal)
  · have hk : PySem.W.Sortable (l.map pyD) := .inl fun d hd => by
      have s5 : (py.all isTup1) = true := by
        rcases Bool.or_eq_true_iff.mp s4 with z | z
        · exact z
        · have z := of_decide_eq_true z
          rw [e1, List.length_map] at z
          exact absurd z hone
      have := List.all_eq_true.mp s5 d (by rw [e1]; exact hd)
      cases q : d with
      | tuple ts =>
        cases ts with
        | nil => rw [q] at this; cases this
        | cons y r => exact ⟨y, r, rfl⟩
      | _ => rw [q] at this; cases this
    exact PySem.W.sorted_data (enc := pyD) hl.isList e er hal hk hL (fun b hb => by have := (s2' b hb).2; omega) fin
theorem bi_ok (hK : X.K = G.K) (hc : X.calm = true) (hu : X.A.units + 100 < cLine) (hg : X.A.guards = some []) (b : Bi) : CallR X (biV b) (PL G (biD b)) := by
  intro pins s σ H xs us Q I r h
  obtain ⟨F, cs, pr, sm, hcs, e, q⟩ := h
  unfold biD at e
  split at e
  · cases e
    obtain ⟨x, rfl, hx⟩ := hcs.one
    obtain ⟨a, ys, rfl, h1, r1⟩ := hx.lst sm
    exact call_len_seq pins s σ H _ us Q I r ⟨a, ys, rfl, .inl (.inl h1), by rw [r1.length]; exact q _ F H (.int sm)⟩
  · cases e
    obtain ⟨x, rfl, hx⟩ := hcs.one
    obtain ⟨a, ys, rfl, h1, r1⟩ := hx.tup sm
    exact call_len_seq pins s σ H _ us Q I r ⟨a, ys, rfl, .inr (by rw [hK]; exact h1), by rw [r1.length]; exact q _ F H (.int sm)⟩
  · cases e
    obtain ⟨x, rfl, hx⟩ := hcs.one
    obtain ⟨a, ys, rfl, h1, r1⟩ := hx.scr sm
    exact call_len_seq pins s σ H _ us Q I r ⟨a, ys, rfl, .inl (by rw [hK]; exact h1), by rw [r1.length]; exact q _ F H (.int sm)⟩
  · split at e
    · rename_i hz
      cases e
      obtain ⟨x, rfl, hx⟩ := hcs.one
      obtain rfl := hx.str
      exact call_len_str pins s σ H _ us Q I r ⟨_, rfl, hz, q _ F H (.int sm)⟩
    · cases e
  · cases e
    obtain ⟨x, rfl, hx⟩ := hcs.one
    obtain rfl := hx.int
    exact call_abs pins s σ H _ us Q I r ⟨_, rfl, q _ F H (.int sm)⟩
  · cases e
    obtain ⟨x, rfl, hx⟩ := hcs.one
    obtain rfl := hx.int
    exact call_int1 pins s σ H _ us Q I r (.inl ⟨_, rfl, q _ F H (.int sm)⟩)
  · cases e
    obtain ⟨x, rfl, hx⟩ := hcs.one
    obtain rfl := hx.bl
    exact call_int1 pins s σ H _ us Q I r (.inr ⟨_, rfl, q _ F H (.int sm)⟩)
  · split at e
    · rename_i hz
      cases e
      obtain ⟨x, rfl, hx⟩ := hcs.one
      obtain rfl := hx.int
      exact call_str_int pins s σ H _ us Q I r ⟨_, rfl, hz, q _ F H (.str sm)⟩
    · cases e
  · -- repr
    rename_i d
    split at e
    · rename_i p ep
      split at e
      · rename_i hz
        cases e
        simp only [Bool.and_eq_true, decide_eq_true_eq, Bool.not_eq_true'] at hz
        obtain ⟨⟨⟨z1, z2⟩, z3⟩, z4⟩ := hz
        obtain ⟨x, rfl, hx⟩ := hcs.one
        obtain ⟨u, rfl, ru⟩ := vals1 r
        obtain ⟨as, rd⟩ := Dp.reads I p x u (by rw [hK]; exact hx.dp sm ep) ru
        have fin : ∀ {h' : Heap} {tk : Nat} {t : Tok}, (∀ b o, s.heap.get? b = some o → h'.get? b = some o) → EP X pins σ Q (.str p.shown t) { s with heap := h', toks := tk } := fun {h' tk t} k =>
          ⟨.str p.shown, H, I.kept k, ⟨t, rfl⟩, q _ F H (.str sm)⟩
        have k0 : ∀ b o, s.heap.get? b = some o → s.heap.get? b = some o := fun _ _ z => z
        cases rd with
        | none => exact PySem.P.repr_of_none (fin k0)
        | bool b => exact PySem.P.repr_of_bool (fin k0)
        | int i t => exact PySem.P.repr_of_int (by simpa [PyData.showable] using z1) (fin k0)
        | str z t => exact PySem.P.repr_of_str (fin k0) z4
        | list w1 w2 w3 w4 => exact repr_of_reads' (.list w1 w2 w3 w4) z1 (fun w => by rw [z2] at w; cases w) hg (by omega) k0 (fun h' u tk k => fin k) z4
        | tuple w1 w2 w3 w4 => exact repr_of_reads' (.tuple w1 w2 w3 w4) z1 (fun w => by rw [z2] at w; cases w) hg (by omega) k0 (fun h' u tk k => fin k) z4
        | dict => cases z2
      · cases e
    · cases e
  · -- max of a list
    rename_i l
    split at e
    · rename_i n ns en
      cases e
      obtain ⟨x, rfl, hx⟩ := hcs.one
      obtain ⟨a, ys, rfl, h1, r1⟩ := hx.lst sm
      have el := intsD_ok en
      rw [el] at r1
      have ey := r1.ints
      subst ey
      refine cr_max hc pins s σ H _ us Q I r ⟨a, n :: ns, rfl, .inl h1, by simp, fun m hm hall => ?_⟩
      obtain ⟨m1, m2, m3⟩ := max_mem ns n
      have em : m = maxL (n :: ns) := by
        refine Int.le_antisymm ?_ ?_
        · rcases List.mem_cons.mp hm with e | hm
          · rw [e]; exact m2
          · exact m3 m hm
        · rcases m1 with m1 | m1
          · show ns.foldl max n ≤ m
            rw [m1]; exact hall n List.mem_cons_self
          · exact hall _ (List.mem_cons_of_mem _ m1)
      rw [em]
      exact q _ F H (.int sm)
    · cases e
  · rename_i l
    split at e
    · rename_i n ns en
      cases e
      obtain ⟨x, rfl, hx⟩ := hcs.one
      obtain ⟨a, ys, rfl, h1, r1⟩ := hx.lst sm
      have el := intsD_ok en
      rw [el] at r1
      have ey := r1.ints
      subst ey
      refine cr_min hc pins s σ H _ us Q I r ⟨a, n :: ns, rfl, .inl h1, by simp, fun m hm hall => ?_⟩
      obtain ⟨m1, m2, m3⟩ := min_mem ns n
      have em : m = minL (n :: ns) := by
        refine Int.le_antisymm ?_ ?_
        · rcases m1 with m1 | m1
          · show m ≤ ns.foldl min n
            rw [m1]; exact hall n List.mem_cons_self
          · exact hall _ (List.mem_cons_of_mem _ m1)
        · rcases List.mem_cons.mp hm with e | hm
          · rw [e]; exact m2
          · exact m3 m hm
      rw [em]
      exact q _ F H (.int sm)
    · cases e
  · cases e
    obtain ⟨x, rfl, hx⟩ := hcs.one
    obtain ⟨a, ys, rfl, h1, r1⟩ := hx.lst sm
    exact call_tuple_of pins s σ H _ us Q I r ⟨a, ys, rfl, .inl ⟨.inl h1, fun p hp => q _ _ _ (.tup sm hp r1)⟩⟩
  · cases e
    obtain ⟨x, rfl, hx⟩ := hcs.one
    have rc := hx.flat (fun _ => by simp) (fun _ => by simp)
    obtain ⟨a, ys, rfl, h1, r1⟩ := hx.tup sm
    exact call_tuple_of pins s σ H _ us Q I r ⟨a, ys, rfl, .inr ⟨by rw [hK]; exact h1, q _ F H (.val sm rc)⟩⟩
  · cases e
    obtain ⟨x, rfl, hx⟩ := hcs.one
    obtain ⟨a, ys, rfl, h1, r1⟩ := hx.lst sm
    exact call_list_of pins s σ H _ us Q I r ⟨a, ys, rfl, .inl (.inl h1), fun p hp => q _ _ _ (.new sm hp (.lst r1))⟩
  · cases e
    obtain ⟨x, rfl, hx⟩ := hcs.one
    obtain ⟨a, ys, rfl, h1, r1⟩ := hx.tup sm
    exact call_list_of pins s σ H _ us Q I r ⟨a, ys, rfl, .inr (by rw [hK]; exact h1), fun p hp => q _ _ _ (.new sm hp (.lst r1))⟩
  · -- sorted
    rename_i l
    unfold sortD at e
    cases en : intsD l with
    | none =>
      rw [en] at e
      simp only at e
      unfold sortT at e
      cases ep : toPyL l with
      | none => rw [ep] at e; cases e
      | some py =>
        rw [ep] at e
        simp only at e
        split at e
        · rename_i so
          cases e
          obtain ⟨x, rfl, hx⟩ := hcs.one
          obtain ⟨a, ys, rfl, h1, r1⟩ := hx.lst sm
          exact cr_sortedD hK hu pins s σ H _ us Q I r ⟨F, a, ys, l, py, rfl, sm, h1, r1, ep, so, fun ys' p r' hn => q _ _ _ (.new sm hn (.lst r'))⟩
        · cases e
    | some ns =>
      rw [en] at e
      cases e
      obtain ⟨x, rfl, hx⟩ := hcs.one
      obtain ⟨a, ys, rfl, h1, r1⟩ := hx.lst sm
      have el := intsD_ok en
      rw [el] at r1
      have ey := r1.ints
      subst ey
      refine cr_sortedI pins s σ H _ us Q I r ⟨a, ns, rfl, .inl h1, fun ns' p hp hs hn => ?_⟩
      have es : ns' = ns.mergeSort leI := sorted_unique (hp.trans (List.mergeSort_perm _ _).symm) hs (sort_sorted ns)
      rw [es]
      exact q _ _ _ (.new sm hn (.lst (RepL.ofInts _)))
  · rename_i l
    cases en : intsD l with
    | none => rw [en] at e; cases e
    | some ns =>
      rw [en] at e
      cases e
      obtain ⟨x, rfl, hx⟩ := hcs.one
      obtain ⟨a, ys, rfl, h1, r1⟩ := hx.lst sm
      have el := intsD_ok en
      rw [el] at r1
      have ey := r1.ints
      subst ey
      exact cr_sum hc pins s σ H _ us Q I r ⟨a, ns, rfl, .inl h1, q _ F H (.int sm)⟩
  · rename_i l
    cases en : blsD l with
    | none => rw [en] at e; cases e
    | some ns =>
      rw [en] at e
      cases e
      obtain ⟨x, rfl, hx⟩ := hcs.one
      obtain ⟨a, ys, rfl, h1, r1⟩ := hx.lst sm
      have el := blsD_ok en
      rw [el] at r1
      have ey := r1.bls
      subst ey
      exact cr_any hc pins s σ H _ us Q I r ⟨a, ns, rfl, .inl h1, q _ F H (.bl sm)⟩
  · rename_i l
    cases en : blsD l with
    | none => rw [en] at e; cases e
    | some ns =>
      rw [en] at e
      cases e
      obtain ⟨x, rfl, hx⟩ := hcs.one
      obtain ⟨a, ys, rfl, h1, r1⟩ := hx.lst sm
      have el := blsD_ok en
      rw [el] at r1
      have ey := r1.bls
      subst ey
      exact cr_all hc pins s σ H _ us Q I r ⟨a, ns, rfl, .inl h1, q _ F H (.bl sm)⟩
  · cases e
    obtain ⟨x, y, rfl, hx, hy⟩ := hcs.two
    obtain rfl := hx.int
    obtain rfl := hy.int
    exact call_max2 hc pins s σ H _ us Q I r ⟨_, _, rfl, q _ F H (.int sm)⟩
  · cases e
    obtain ⟨x, y, rfl, hx, hy⟩ := hcs.two
    obtain rfl := hx.int
    obtain rfl := hy.int
    exact call_min2 hc pins s σ H _ us Q I r ⟨_, _, rfl, q _ F H (.int sm)⟩
  · cases e
end
end Ev

set_option Elab.async false
set_option linter.all false
set_option maxRecDepth 100000
set_option maxHeartbeats 1000000
/-! Computations of the evaluator as readings of the hand layer. -/
namespace Ev
open PySem PySem.Spec L2
open PyProof.Rows hiding St

/-- an exception's class and attribute, as they lie -/
inductive XR (G : Adr) (H : Hp) : Ex → Value → Option Addr → Prop
  | plain (c : Nat) : XR G H ⟨c, .non⟩ (.ref (G.xc c)) none

abbrev Rl (α γ : Type) := (Addr → Prop) → Hp → St → Hp → Env → α → γ → Prop
section
variable (G : Adr) (T : Nat → Addr → Prop) (W : WX)
/-- what is wanted of a computation's end -/
def Go {α γ : Type} (R : Rl α γ) (F0 H0 : Hp) (B : Addr → Prop) (σ : St) (o : Option (O α)) (Q : γ → Hp → Prop) : Prop := match o with
  | none => False
  | some (.ex x e) => ∀ F' H' cls d, Cond G T F0 H0 B F' σ H' e → XR G H' x cls d → W cls d σ H'
  | some (.ok a e) => ∀ F' H' g, Cond G T F0 H0 B F' σ H' e → R (Fz H0 B) F' σ H' e a g → Q g H'
def tM {α γ : Type} (R : Rl α γ) (m : M α) : St → Hp → (γ → Hp → Prop) → Prop := fun σ H Q =>
  ∃ F0 H0 B F env, Cond G T F0 H0 B F σ H env ∧ Go G T W R F0 H0 B σ (m env) Q
abbrev rR : Rl R V := fun Z F σ H env a g => HR G Z F σ H env a g
abbrev rB : Rl Bool Bool := fun _ _ _ _ _ a g => a = g
abbrev rL : Rl (List R) (List V) := fun Z F σ H env a g => HRs G Z F σ H env a g
def tR (m : M R) : TE := tM G T W (rR G) m
def tT (m : M Bool) : TT := tM G T W rB m
def tL (m : M (List R)) : TA := tM G T W (rL G) m
end
section
variable {G : Adr} {T : Nat → Addr → Prop} {W : WX} {F0 H0 F H : Hp} {B : Addr → Prop} {σ : St} {env : Env}
/-- one part of a computation: Hd is held meanwhile -/
theorem step {α β γ δ : Type} {R' : Rl α γ} {R : Rl β δ} {m : M α} {f : α → M β} {P : Hd} {Q : δ → Hp → Prop} (st : Stable G T P) (C : Cond G T F0 H0 B F σ H env) (h : P F σ H env) (g : Go G T W R F0 H0 B σ (bnd m f env) Q) :
    tM G T W R' m σ H (fun c H1 => ∃ F1 env1 a, Cond G T F0 H0 B F1 σ H1 env1 ∧ P F1 σ H1 env1 ∧ R' (Fz H (Own σ env)) F1 σ H1 env1 a c ∧ Go G T W R F0 H0 B σ (f a env1) Q) := by
  refine ⟨F, H, Own σ env, F, env, C.now.self, ?_⟩
  unfold bnd at g
  cases e : m env with
  | none => rw [e] at g; exact g
  | some o =>
    rw [e] at g
    cases o with
    | ex x e' => exact fun F' H' cls d c xr => g F' H' cls d (C.trans c) xr
    | ok a e' => exact fun F' H' v c r => ⟨F', e', a, C.trans c, st _ _ _ _ _ _ _ h C.now c, r, g⟩
theorem tM_mono {α γ : Type} {R : Rl α γ} {m : M α} {Q Q' : γ → Hp → Prop} (h : tM G T W R m σ H Q) (q : ∀ v H1, Q v H1 → Q' v H1) : tM G T W R m σ H Q' := by
  obtain ⟨a, b, c, d, e, h1, h2⟩ := h
  refine ⟨a, b, c, d, e, h1, ?_⟩
  unfold Go at h2 ⊢
  cases z : m e with
  | none => rw [z] at h2; exact h2
  | some o =>
    rw [z] at h2
    cases o with
    | ex x e' => exact h2
    | ok a e' => exact fun F' H' v c r => q _ _ (h2 F' H' v c r)
theorem step0 {α β γ δ : Type} {R' : Rl α γ} {R : Rl β δ} {m : M α} {f : α → M β} {Q : δ → Hp → Prop} (C : Cond G T F0 H0 B F σ H env) (g : Go G T W R F0 H0 B σ (bnd m f env) Q) :
    tM G T W R' m σ H (fun c H1 => ∃ F1 env1 a, Cond G T F0 H0 B F1 σ H1 env1 ∧ R' (Fz H (Own σ env)) F1 σ H1 env1 a c ∧ Go G T W R F0 H0 B σ (f a env1) Q) :=
  tM_mono (step (R' := R') (P := fun _ _ _ _ => True) Stable.tt C trivial g) fun _ _ ⟨z1, z2, z3, z4, _, z5, z6⟩ => ⟨z1, z2, z3, z4, z5, z6⟩
theorem pe_mono {X : Cx} {e : Expr} {t t' : TE} (h : PE X e t) (m : ∀ σ H Q, t' σ H Q → t σ H Q) : PE X e t' := ⟨fun pins s σ H Q I hw => h.run pins s σ H Q I (m σ H Q hw)⟩
theorem pt_mono {X : Cx} {e : Expr} {t t' : TT} (h : PT X e t) (m : ∀ σ H Q, t' σ H Q → t σ H Q) : PT X e t' := ⟨fun pins s σ H Q I hw => h.run pins s σ H Q I (m σ H Q hw)⟩
theorem pw_mono {X : Cx} {e : Expr} {t t' : TT} (h : PW X e t) (m : ∀ σ H Q, t' σ H Q → t σ H Q) : PW X e t' := ⟨fun wh pins s σ H Q I hw => h.run wh pins s σ H Q I (m σ H Q hw)⟩
theorem pa_mono {X : Cx} {e : List Expr} {t t' : TA} (h : PA X e t) (m : ∀ σ H Q, t' σ H Q → t σ H Q) : PA X e t' := ⟨fun p pins s σ H Q I hw => h.run p pins s σ H Q I (m σ H Q hw)⟩
/-! ### ends -/
theorem go_ret {α γ : Type} {R : Rl α γ} {a : α} {g : γ} {Q : γ → Hp → Prop} (C : Cond G T F0 H0 B F σ H env) (r : R (Fz H0 B) F σ H env a g) (h : Go G T W R F0 H0 B σ (ret a env) Q) : Q g H := h F H g C r
theorem go_one {f : D → Option PR} {Z : Addr → Prop} {r : R} {x : V} {Q : VK} (C : Cond G T F0 H0 B F σ H env) (h : HR G Z F σ H env r x) (g : Go G T W (rR G) F0 H0 B σ (oneP f r env) Q) : P1 G f x H Q := by
  unfold oneP at g
  cases e : cont env r with
  | none => rw [e] at g; exact g.elim
  | some c =>
    rw [e] at g
    cases e2 : f c with
    | none =>
      have g : Go G T W (rR G) F0 H0 B σ (match f c with | some r => some (.ok r.r env) | none => none) Q := g
      rw [e2] at g; exact g.elim
    | some pr =>
      have g : Go G T W (rR G) F0 H0 B σ (match f c with | some r => some (.ok r.r env) | none => none) Q := g
      rw [e2] at g
      refine ⟨F, c, pr, C.now.same, h.cont C.now e, e2, fun v F' H' p => ?_⟩
      obtain ⟨c1, c2⟩ := p.cond C
      exact g F' H' v c1 c2
theorem go_two {f : D → D → Option PR} {Z Z' : Addr → Prop} {r r' : R} {x y : V} {Q : VK} (C : Cond G T F0 H0 B F σ H env) (h : HR G Z F σ H env r x) (h' : HR G Z' F σ H env r' y) (g : Go G T W (rR G) F0 H0 B σ (twoP f r r' env) Q) : P2 G f x y H Q := by
  unfold twoP at g
  cases e : cont env r with
  | none => rw [e] at g; exact g.elim
  | some c =>
    cases e' : cont env r' with
    | none => rw [e, e'] at g; exact g.elim
    | some d =>
      rw [e, e'] at g
      cases e2 : f c d with
      | none =>
        have g : Go G T W (rR G) F0 H0 B σ (match f c d with | some r => some (.ok r.r env) | none => none) Q := g
        rw [e2] at g; exact g.elim
      | some pr =>
        have g : Go G T W (rR G) F0 H0 B σ (match f c d with | some r => some (.ok r.r env) | none => none) Q := g
        rw [e2] at g
        refine ⟨F, c, d, pr, C.now.same, h.cont C.now e, h'.cont C.now e', e2, fun v F' H' p => ?_⟩
        obtain ⟨c1, c2⟩ := p.cond C
        exact g F' H' v c1 c2
theorem HRs.content {Z : Addr → Prop} {F H : Hp} {σ : St} {env : Env} (n : Now G T F σ H env) : ∀ {rs : List R} {xs : List V} {ds : List D}, HRs G Z F σ H env rs xs → conts env rs = some ds → BReps G F H xs ds
  | _, _, _, .nil, e => by cases e; exact .nil
  | r :: rs, _, ds, .cons h _ t, e => by
    have e : (match cont env r, conts env rs with
      | some d, some ds => some (d :: ds)
      | _, _ => none) = some ds := e
    cases e1 : cont env r with
    | none => rw [e1] at e; cases e
    | some d =>
      cases e2 : conts env rs with
      | none => rw [e1, e2] at e; cases e
      | some ds' =>
        rw [e1, e2] at e
        cases e
        exact .cons (h.cont n e1) (t.content n e2)
theorem go_all {f : List D → Option PR} {Z : Addr → Prop} {rs : List R} {xs : List V} {Q : VK} (C : Cond G T F0 H0 B F σ H env) (h : HRs G Z F σ H env rs xs) (g : Go G T W (rR G) F0 H0 B σ (allP f rs env) Q) : PL G f xs H Q := by
  unfold allP at g
  cases e : conts env rs with
  | none => rw [e] at g; exact g.elim
  | some cs =>
    rw [e] at g
    cases e2 : f cs with
    | none =>
      have g : Go G T W (rR G) F0 H0 B σ (match f cs with | some r => some (.ok r.r env) | none => none) Q := g
      rw [e2] at g; exact g.elim
    | some pr =>
      have g : Go G T W (rR G) F0 H0 B σ (match f cs with | some r => some (.ok r.r env) | none => none) Q := g
      rw [e2] at g
      refine ⟨F, cs, pr, C.now.same, h.content C.now e, e2, fun v F' H' p => ?_⟩
      obtain ⟨c1, c2⟩ := p.cond C
      exact g F' H' v c1 c2
/-- a computation that stands here -/
theorem go_bnd {α β δ : Type} {R : Rl β δ} {m : M α} {f : α → M β} {Q : δ → Hp → Prop} (g : Go G T W R F0 H0 B σ (bnd m f env) Q) (hx : ∀ x e, m env ≠ some (.ex x e)) : ∃ a e, m env = some (.ok a e) ∧ Go G T W R F0 H0 B σ (f a e) Q := by
  unfold bnd at g
  cases e : m env with
  | none => rw [e] at g; exact g.elim
  | some o =>
    rw [e] at g
    cases o with
    | ex x e' => exact absurd e (hx x e')
    | ok a e' => exact ⟨a, e', rfl, g⟩

/-! ### sharing -/
/-- a result is shared from now on: the same state in the model -/
theorem frz_noex (r : R) (env : Env) : ∀ x e, frz r env ≠ some (.ex x e) := by
  intro x e h
  unfold frz at h
  cases r with
  | v d => cases h
  | fr o => cases h
  | ow i =>
    simp only at h
    split at h <;> cases h
theorem set_at {α : Type} {l : List α} {i j : Nat} {x y : α} (h : (l.set i x)[j]? = some y) : (j = i ∧ y = x) ∨ (j ≠ i ∧ l[j]? = some y) := by
  by_cases e : j = i
  · subst e
    rw [List.getElem?_set] at h
    simp only [if_true] at h
    split at h
    · exact .inl ⟨rfl, (Option.some.inj h).symm⟩
    · cases h
  · rw [List.getElem?_set_ne (Ne.symm e)] at h
    exact .inr ⟨e, h⟩
theorem frz_ok {r : R} {x : V} {d : D} {env' : Env} (C : Cond G T F0 H0 B F σ H env) (h : HR G (Fz H0 B) F σ H env r x) (e : frz r env = some (.ok d env')) :
    ∃ F', Cond G T F0 H0 B F' σ H env' ∧ Rep G F' x d ∧ Same F F' ∧ ∀ Z r' x', HR G Z F σ H env r' x' → Apart r x r' x' → HR G Z F' σ H env' r' x' := by
  cases h with
  | v h => cases e; exact ⟨F, C, h, Same.refl _, fun _ _ _ k _ => k⟩
  | @fr a o u h1 h2 h3 h4 h5 =>
    cases e
    have sf : Same F (upd F a u) := same_upd h1
    have up : upd F a u a = some u := upd_same
    refine ⟨upd F a u, ⟨⟨fun b w q => ?_, C.now.len, fun i s hs => ?_, C.now.inj, C.now.tr⟩, C.ext.s0.trans sf, fun b q1 q2 => ?_, C.ext.pres, C.ext.own⟩, h3.frozen sf up, sf, fun Z r' x' k ap => ?_⟩
    · by_cases hb : b = a
      · subst hb; rw [up] at q; cases q; exact h2
      · rw [upd_ne hb] at q; exact C.now.same _ _ q
    · obtain ⟨y, z1, z2⟩ := C.now.sl i s hs
      refine ⟨y, z1, ?_⟩
      cases z2 with
      | un => exact .un
      | v z => exact .v (z.mono sf)
      | @ow a' b' o' u' z3 z4 z5 =>
        refine .ow ?_ z4 (z5.mono sf)
        have : a' ≠ a := fun q => h4 ⟨i, b', o', by rw [← q]; exact z1, hs⟩
        rw [upd_ne this]
        exact z3
    · by_cases hb : b = a
      · subst hb; exact h5
      · rw [upd_ne hb] at q1
        exact C.ext.fresh b q1 q2
    · cases k with
      | v k => exact .v (k.mono sf)
      | ow k => exact .ow k
      | @fr b o' u' k1 k2 k3 k4 k5 =>
        have ap : V.ref a ≠ V.ref b := ap
        refine .fr ?_ k2 (k3.mono sf) k4 k5
        rw [upd_ne fun q => ap (by rw [q])]
        exact k1
  | @ow i x h =>
    have e : (match env[i]? with
      | some (Sl.v d) => some (O.ok d env)
      | some (Sl.ow false o) => some (O.ok o.toD (env.set i (.v o.toD)))
      | _ => none) = some (O.ok d env') := e
    cases q : env[i]? with
    | none => rw [q] at e; cases e
    | some s =>
      rw [q] at e
      obtain ⟨y, z1, z2⟩ := C.now.sl i s q
      rw [h] at z1
      cases z1
      cases z2 with
      | un => cases e
      | v z => cases e; exact ⟨F, C, z, Same.refl _, fun _ _ _ k _ => k⟩
      | @ow a b o u k1 k2 k3 =>
        cases b with
        | true => cases e
        | false =>
          cases e
          have sf : Same F (upd F a u) := same_upd k1
          have up : upd F a u a = some u := upd_same
          have hown : Own σ env a := ⟨i, false, o, h, q⟩
          have sub : ∀ c, Own σ (env.set i (.v o.toD)) c → Own σ env c := fun c ⟨j, b', o', w1, w2⟩ => by
            rcases set_at w2 with ⟨_, w⟩ | ⟨_, w⟩
            · cases w
            · exact ⟨j, b', o', w1, w⟩
          refine ⟨upd F a u, ⟨⟨fun b w q => ?_, by rw [List.length_set]; exact C.now.len, fun j s hs => ?_, fun j j' c b b' o1 o2 w1 w2 w3 w4 => ?_, fun j o1 w => ?_⟩, C.ext.s0.trans sf, fun b q1 q2 => ?_, C.ext.pres, fun c hc => C.ext.own c (sub c hc)⟩, k3.frozen sf up, sf, fun Z r' x' k ap => ?_⟩
          · by_cases hb : b = a
            · subst hb; rw [up] at q; cases q; exact k2
            · rw [upd_ne hb] at q; exact C.now.same _ _ q
          · rcases set_at hs with ⟨rfl, rfl⟩ | ⟨hj, hs⟩
            · exact ⟨_, h, .v (k3.frozen sf up)⟩
            · obtain ⟨y, z1, z2⟩ := C.now.sl j s hs
              refine ⟨y, z1, ?_⟩
              cases z2 with
              | un => exact .un
              | v z => exact .v (z.mono sf)
              | @ow a' b' o' u' z3 z4 z5 =>
                refine .ow ?_ z4 (z5.mono sf)
                have : a' ≠ a := fun w => hj (C.now.inj j i a b' false o' o (by rw [← w]; exact z1) h hs q)
                rw [upd_ne this]
                exact z3
          · rcases set_at w3 with ⟨_, w⟩ | ⟨_, w3⟩
            · cases w
            · rcases set_at w4 with ⟨_, w⟩ | ⟨_, w4⟩
              · cases w
              · exact C.now.inj j j' c b b' o1 o2 w1 w2 w3 w4
          · rcases set_at w with ⟨_, w⟩ | ⟨_, w⟩
            · cases w
            · exact C.now.tr j o1 w
          · by_cases hb : b = a
            · subst hb; exact C.ext.own _ hown
            · rw [upd_ne hb] at q1
              exact C.ext.fresh b q1 q2
          · cases k with
            | v k => exact .v (k.mono sf)
            | ow k => exact .ow k
            | @fr b o' u' w1 w2 w3 w4 w5 =>
              refine .fr ?_ w2 (w3.mono sf) (fun z => w4 (sub _ z)) w5
              have : b ≠ a := fun z => w4 (by rw [z]; exact hown)
              rw [upd_ne this]
              exact w1
theorem frz_oks {r : R} {x : V} {d : D} {env' : Env} {Z : Addr → Prop} {F' : Hp} (h : ∀ Z r' x', HR G Z F σ H env r' x' → Apart r x r' x' → HR G Z F' σ H env' r' x') : ∀ {rs : List R} {xs : List V}, HRs G Z F σ H env rs xs → Aparts r x rs xs → HRs G Z F' σ H env' rs xs
  | _, _, .nil, _ => .nil
  | _, _, .cons k a t, ap => .cons (h _ _ _ k ap.1) a (frz_oks (d := d) h t ap.2)
end
end Ev

set_option Elab.async false
set_option linter.all false
set_option maxRecDepth 100000
set_option maxHeartbeats 4000000
/-! sorted(set(list of ints)). -/
namespace Ev
open PySem PySem.Spec L2
open PyProof.Rows hiding St
section
variable {P : Program} {w : World} {A : Around} {E : Value → Shared → Prop} {s : Shared}
theorem set_of_list {l : Addr} {items : Array Value} (ns : List Int) {Q : Value → Shared → Prop} (hh : A.handled = none) (hl : s.heap.IsList l items) (hit : IntsAre items.toList ns) (hb : ns.length + 1 < scanBound)
    (h : ∀ (h' : Heap) (tk c : Nat), SetR w h' s.heap.objs.size (fun j => decide (j ∈ ns)) c → c ≤ ns.length → (∀ b o, s.heap.get? b = some o → h'.get? b = some o) → Q (.ref s.heap.objs.size) { s with heap := h', toks := tk }) :
    wpAny (model P w) A (call (.type "set") [.ref l]) Q E s := by
  have hisz : items.size = ns.length := by
    have q := IntsAre.length hit
    rw [Array.length_toList] at q
    exact q
  obtain ⟨c, tl, hmro⟩ := F.called_set.mro
  have hmade := F.called_set.made
  have hsub := F.called_set.sub
  refine wpAny_call (codeAny_of_tree ?_)
  show wpAny _ _ (callAny (.type "set") _) _ _ _
  refine wpAny_pure ⟨Code.quiet_builtin _ (by decide +kernel), codeAny_builtin F.entry_type_call ?_⟩
  rw [Around.under_plain (weight_type_call_type "set" [.ref l] []) rfl]
  have h1 := F.called_set.notType
  have h2 := F.called_set.canCreate
  have hct := F.typeCall_set_1 (.ref l)
  repeat (any_goals (first | assumption | wp_step))

  refine codeAny_mono (code_set_led1 (.ref l) (E := E) (Q₁ := fun obj s₁ => obj = .ref s.heap.objs.size ∧ s₁ = { s with heap := s.heap.push { cls := .type "set", dict := none, data := .set #[] 0 (.fresh 0 0 (!w.params.followText "set-order")) } }) ⟨rfl, rfl⟩) fun r s₁ hr => ?_
  cases r with
  | error e => exact hr
  | ok fl =>
    cases fl with
    | ret obj =>
      obtain ⟨rfl, rfl⟩ := hr
      have hS : (s.heap.push { cls := .type "set", dict := none, data := .set #[] 0 (.fresh 0 0 (!w.params.followText "set-order")) }).get? s.heap.objs.size = some { cls := .type "set", dict := none, data := .set #[] 0 (.fresh 0 0 (!w.params.followText "set-order")) } := Heap.get?_push_size _ rfl
      have hT : Shared.TypeIs { s with heap := s.heap.push { cls := .type "set", dict := none, data := .set #[] 0 (.fresh 0 0 (!w.params.followText "set-order")) } } (.ref s.heap.objs.size) "set" := ⟨_, hS, rfl⟩
      have hli := F.called_set.init.lookup
      have hbi := F.called_set.init.bind (.ref s.heap.objs.size)
      repeat (any_goals (first | assumption | wp_step))

      refine codeAny_mono (codeAny_call_builtin (R := wants (fun r s₂ => r = .none ∧ ∃ h' tk c, s₂ = { s with heap := h', toks := tk } ∧ SetR w h' s.heap.objs.size (fun j => decide (j ∈ ns)) c ∧ c ≤ ns.length ∧
          (∀ b o, s.heap.get? b = some o → h'.get? b = some o)) E) F.called_set.init.plain F.entry_set_init (check_set_init_1 hT ?_)) fun r₂ s₂ hr₂ => ?_
      · obtain ⟨ol, hol, hcl, nl, hdl⟩ := hl
        obtain ⟨ocls, odict, odata, oslots⟩ := ol
        simp only at hcl hdl
        subst hcl; subst hdl
        have hol' : (s.heap.push { cls := .type "set", dict := none, data := .set #[] 0 (.fresh 0 0 (!w.params.followText "set-order")) }).get? l = some { cls := .type "list", dict := odict, data := .seq items nl, slots := oslots } := Heap.get?_push_of_some _ hol
        have hsls := F.sub_list_set
        have hslf := F.sub_list_frozenset
        have hne : (Value.type "list" == Value.type "dict") = false := by decide
        have hl1 : (s.heap.push { cls := .type "set", dict := none, data := .set #[] 0 (.fresh 0 0 (!w.params.followText "set-order")) }).IsList l items := ⟨_, hol', rfl, nl, rfl⟩
        unfold Builtin.«set.__init__» noKeywords Builtin.Frozenset.updateFrom
        generalize hPI : pyIter = PI
        wp_walk
        subst hPI

        refine wpAny_pyIter_list hl1 ?_
        refine wpAny_bind (wpAny_runValue ?_)
        have hlS : l < s.heap.objs.size := Heap.lt_size hol
        have hh3 : A.in1.in1.in1.handled = none := by simp [hh]
        have hz1 : (s.heap.push { cls := .type "set", dict := none, data := .set #[] 0 (.fresh 0 0 (!w.params.followText "set-order")) }).objs.size = s.heap.objs.size + 1 := Heap.size_push ..
        have hneI : l ≠ (s.heap.push { cls := .type "set", dict := none, data := .set #[] 0 (.fresh 0 0 (!w.params.followText "set-order")) }).objs.size := by
          rw [Heap.size_push]; exact Nat.ne_of_lt (Nat.lt_succ_of_lt hlS)
        have hSf : s.heap.objs.size ∉ [(s.heap.push { cls := .type "set", dict := none, data := .set #[] 0 (.fresh 0 0 (!w.params.followText "set-order")) }).objs.size, l] := by
          rw [Heap.size_push]; simp only [List.mem_cons, List.mem_singleton, List.not_mem_nil, or_false, not_or]
          exact ⟨Nat.ne_of_lt (Nat.lt_succ_self _), Nat.ne_of_gt hlS⟩
        have hval : ∀ (i : Nat) (v : Value), items[i]? = some v → ∃ k t, ns[i]? = some k ∧ v = .int k t := fun i v hv => by
          have hi : i < ns.length := by rw [← hisz]; exact (Array.getElem?_eq_some_iff.mp hv).1
          obtain ⟨t, e⟩ := PyProof.Rows.IntsAre.int_at hit i v (by rw [Array.getElem?_toList]; exact hv)
          refine ⟨ns[i], t, List.getElem?_eq_getElem hi, ?_⟩
          rw [e, List.getD_eq_getElem?_getD, List.getElem?_eq_getElem hi] <;> rfl
        refine set_update_ints ((Walks.list hh3 _ l hneI items).toS) s.heap.objs.size
          hSf ns hisz hb hval (items.size - 0) 0 _ (by omega) (Nat.zero_le _)
          ⟨⟨_, Heap.get?_push_size _ rfl, rfl, rfl⟩, (hl1.push _)⟩ ?hS0 ?hR
        case hS0 =>
          have hget : ((s.heap.push { cls := .type "set", dict := none, data := .set #[] 0 (.fresh 0 0 (!w.params.followText "set-order")) }).push { cls := .type "list_iterator", data := .fields #[.ref l, .int 0 0] }).get? s.heap.objs.size
              = some { cls := .type "set", dict := none, data := .set #[] 0 (.fresh 0 0 (!w.params.followText "set-order")) } := Heap.get?_push_of_some _ hS
          exact ⟨0, Nat.le_refl 0, setR_new_at hget⟩
        case hR =>
          intro s' c' hm hc' hS'
          obtain ⟨h', g2, d', tk', os'⟩ := s'
          have eg : g2 = s.gens := hm.gens
          have ed : d' = s.drawn := hm.drawn
          have eo : os' = s.os := hm.os
          subst eg; subst ed; subst eo
          show wpAny _ _ _ _ _ _
          refine wpAny_pure ?_
          show wpAny _ _ (PySem.ret Value.none) _ _ _
          rw [hisz] at hc'
          refine wpAny_pure ⟨rfl, h', tk', c', rfl, hS', hc', fun b o e => ?_⟩
          have hb0 : b < s.heap.objs.size := Heap.lt_size e
          have hb1 : b ≠ s.heap.objs.size := Nat.ne_of_lt hb0
          have hb2 : b ≠ (s.heap.push { cls := .type "set", dict := none, data := .set #[] 0 (.fresh 0 0 (!w.params.followText "set-order")) }).objs.size := by
            rw [Heap.size_push]; exact Nat.ne_of_lt (Nat.lt_succ_of_lt hb0)
          exact hm.heap b o (by simp only [List.mem_cons, List.mem_singleton, List.not_mem_nil, or_false, not_or]; exact ⟨hb1, hb2⟩) (Heap.get?_push_of_some _ (Heap.get?_push_of_some _ e))

      · cases r₂ with
        | error e => exact hr₂
        | ok fl₂ =>
          cases fl₂ with
          | ret r =>
            obtain ⟨rfl, h', tk, c', rfl, hS', hc', hk'⟩ := hr₂
            repeat (any_goals (first | assumption | wp_step))
            exact h _ _ _ hS' hc' hk'
          | _ => exact hr₂.elim
    | _ => exact hr.elim

end
/-! ### sorted(set(..)) -/
section
variable {X : Cx}
def rSetOf (K : PySem.W.Frag) (w : World) : List V → Hp → VK → Prop := fun vs H Q => ∃ (l : Addr) (ns : List Int), vs = [V.ref l] ∧ SqL K H l (ns.map V.int) ∧ ns.length < 64 ∧
  ∀ p c, H p = none → c ≤ ns.length → Q (.ref p) (upd H p (SetO w p (fun j => decide (j ∈ ns)) c))
theorem cr_setOf (hc : X.calm = true) : CallR X (.type "set") (rSetOf X.K X.w) := by
  intro pins s σ H vs us Q I r h
  obtain ⟨l, ns, rfl, hl, h64, q⟩ := h
  obtain ⟨its, rv, pl, hz⟩ := I.list hl
  rw [Vals.ref1 r]
  have hi := intsAre_of rv
  refine set_of_list ns (I.ok.hd hc) pl.isList (by simpa using hi) (by unfold scanBound; omega) fun h' tk c R1 hcn k => ?_
  have hn := I.hok.fresh (Nat.le_refl s.heap.objs.size)
  exact ⟨.ref _, _, I.laid (t' := tk) k (Nat.le_refl _) (setO_new R1), rfl, q _ c hn hcn⟩
theorem insU_mem {x y : Int} : ∀ {l : List Int}, y ∈ insU x l ↔ y = x ∨ y ∈ l
  | [] => by simp [insU]
  | z :: r => by
    unfold insU
    split
    · simp
    · split
      · rename_i h; subst h; simp
      · rw [List.mem_cons, insU_mem, List.mem_cons]
        constructor
        · rintro (h | h | h)
          · exact .inr (.inl h)
          · exact .inl h
          · exact .inr (.inr h)
        · rintro (h | h | h)
          · exact .inr (.inl h)
          · exact .inl h
          · exact .inr (.inr h)
theorem insU_sorted {x : Int} : ∀ {l : List Int}, l.Pairwise (· < ·) → (insU x l).Pairwise (· < ·)
  | [], _ => by simp [insU]
  | z :: r, h => by
    obtain ⟨h1, h2⟩ := List.pairwise_cons.mp h
    unfold insU
    split
    · rename_i q
      refine List.pairwise_cons.mpr ⟨fun y hy => ?_, h⟩
      rcases List.mem_cons.mp hy with e | hy
      · rw [e]; exact q
      · exact Int.lt_trans q (h1 y hy)
    · split
      · exact h
      · rename_i q1 q2
        refine List.pairwise_cons.mpr ⟨fun y hy => ?_, insU_sorted h2⟩
        rcases insU_mem.mp hy with e | hy
        · rw [e]; omega
        · exact h1 y hy
theorem ssI_mem {y : Int} : ∀ {l : List Int}, y ∈ ssI l ↔ y ∈ l
  | [] => by simp [ssI]
  | x :: r => by
    show y ∈ insU x (ssI r) ↔ _
    rw [insU_mem, ssI_mem, List.mem_cons]
theorem ssI_sorted : ∀ {l : List Int}, (ssI l).Pairwise (· < ·)
  | [] => by simp [ssI]
  | x :: r => insU_sorted (ssI_sorted (l := r))
theorem strict_unique : ∀ {a b : List Int}, a.Pairwise (· < ·) → b.Pairwise (· < ·) → (∀ k, k ∈ a ↔ k ∈ b) → a = b
  | [], [], _, _, _ => rfl
  | [], y :: b, _, _, h => by have := (h y).mpr List.mem_cons_self; cases this
  | x :: a, [], _, _, h => by have := (h x).mp List.mem_cons_self; cases this
  | x :: a, y :: b, ha, hb, h => by
    obtain ⟨a1, a2⟩ := List.pairwise_cons.mp ha
    obtain ⟨b1, b2⟩ := List.pairwise_cons.mp hb
    have hxy : x = y := by
      rcases List.mem_cons.mp ((h x).mp List.mem_cons_self) with e | e
      · exact e
      · rcases List.mem_cons.mp ((h y).mpr List.mem_cons_self) with e' | e'
        · exact e'.symm
        · have := b1 x e; have := a1 y e'; omega
    subst hxy
    rw [strict_unique a2 b2 fun k => ?_]
    constructor
    · intro hk
      rcases List.mem_cons.mp ((h k).mp (List.mem_cons_of_mem _ hk)) with e | e
      · have := a1 k hk; omega
      · exact e
    · intro hk
      rcases List.mem_cons.mp ((h k).mpr (List.mem_cons_of_mem _ hk)) with e | e
      · have := b1 k hk; omega
      · exact e
theorem pe_sset {G : Adr} (hK : X.K = G.K) (hc : X.calm = true) {e : Expr} {te : TE} {p p2 q pos : Pos} (hs : (∀ env : PySem.Env, starEach [e] env = (false, eval e env) :: starEach [] env)) (hg : Gl X "sorted") (hm : X.mg "sorted" = none) (hg2 : Gl X "set") (hm2 : X.mg "set" = none) (ha : PE X e te) (mono : ∀ σ H Q Q', te σ H Q → (∀ v H, Q v H → Q' v H) → te σ H Q') :
    PE X (.Call (.Name "sorted" p) [.Call (.Name "set" p2) [e] [] q] [] pos) (fun σ H Q => te σ H fun x H1 => P1 G ssetD x H1 Q) := by
  have h1 : PE X (.Call (.Name "set" p2) [e] [] q) (tCB (rSetOf X.K X.w) (tCons te tNil)) := pe_callTy (cr_setOf hc) hg2 hm2 boot_set (pa_cons ha pa_nil (hs _)) (by decide) (by decide) (hs _) rfl
  have h2 : PE X (.Call (.Name "sorted" p) [.Call (.Name "set" p2) [e] [] q] [] pos) (tCB (rSortedSet X.w) (tCons (tCB (rSetOf X.K X.w) (tCons te tNil)) tNil)) := pe_callB (cr_sortedSet hc) hg hm PyProof.Rows.boot_sorted (pa_cons h1 pa_nil) (by decide) (by decide) rfl rfl
  refine ⟨fun pins s σ H Q I h => h2.run pins s σ H Q I (mono _ _ _ _ h fun x H1 ⟨F, c, pr, sm, hx, he, fin⟩ => ?_)⟩
  have shape : ∃ l ns, c = .lst l ∧ intsD l = some ns ∧ ns.length < 64 ∧ pr = .fr (.lst ((ssI ns).map D.int)) := by
    cases c with
    | lst l =>
      have he : (match intsD l with
        | some ns => if ns.length < 64 then some (PR.fr (.lst ((ssI ns).map D.int))) else none
        | none => none) = some pr := he
      cases q : intsD l with
      | none => rw [q] at he; cases he
      | some ns =>
        rw [q] at he
        have he : (if ns.length < 64 then some (PR.fr (.lst ((ssI ns).map D.int))) else none) = some pr := he
        split at he
        · rename_i h; cases he; exact ⟨l, ns, rfl, q, h, rfl⟩
        · cases he
    | _ => cases he
  obtain ⟨l, ns, rfl, hi, h64, rfl⟩ := shape
  obtain ⟨a, xs, rfl, hr, rl⟩ := hx.lst sm
  have e1 := intsD_ok hi
  subst e1
  have e2 := RepL.ints rl
  subst e2
  refine ⟨a, ns, rfl, .inl hr, h64, fun p1 n1 hp hn1 => ?_⟩
  refine ⟨p1, _, n1, rfl, upd_same, by omega, fun ms p2 hms hmem hlen hp2 => ?_⟩
  have e3 : ms = ssI ns := strict_unique hms ssI_sorted fun k => by
    rw [ssI_mem, hmem k]
    exact decide_eq_true_iff
  subst e3
  refine fin _ F _ ⟨Same.refl _, (sm.trans (same_upd hp)).trans (same_upd hp2), (same_upd hp).trans (same_upd hp2), fun _ a b => absurd b a, p2, _, rfl, ?_, ?_, upd_same, .lst (RepL.ofInts _)⟩
  · exact sameOff (same_upd hp) hp2
  · exact sameOff (sm.trans (same_upd hp)) hp2
end
end Ev

set_option Elab.async false
set_option linter.all false
set_option maxRecDepth 100000
set_option maxHeartbeats 1000000
/-! Stores, walked things, blocks. -/
namespace Ev
open PySem PySem.Spec L2
open PyProof.Rows hiding St
section
variable {G : Adr} {T : Nat → Addr → Prop} {W : WX} {F0 H0 F H : Hp} {B : Addr → Prop} {σ : St} {env : Env}

/-! ### a slot is stored -/
theorem own_set {i : Nat} {x : V} {s : Sl} {a : Addr} (h : Own (σ.set i (some x)) (env.set i s) a) : (∃ b o, s = .ow b o ∧ x = .ref a) ∨ (∃ j b o, j ≠ i ∧ σ[j]? = some (some (V.ref a)) ∧ env[j]? = some (Sl.ow b o)) := by
  obtain ⟨j, b, o, h1, h2⟩ := h
  rcases set_at h2 with ⟨rfl, e⟩ | ⟨hj, h2⟩
  · rcases set_at h1 with ⟨_, e1⟩ | ⟨hj, _⟩
    · cases e1
      exact .inl ⟨b, o, e.symm, rfl⟩
    · exact absurd rfl hj
  · rcases set_at h1 with ⟨e, _⟩ | ⟨_, h1⟩
    · exact absurd e hj
    · exact .inr ⟨j, b, o, hj, h1, h2⟩
theorem get_set_self {α : Type} {l : List α} {i : Nat} {x y : α} (h : l[i]? = some y) : (l.set i x)[i]? = some x := by
  rw [List.getElem?_set_self]
  exact (List.getElem?_eq_some_iff.mp h).1
/-- a value or a new object into a slot (s, x) -/
theorem Cond.set {i : Nat} {x : V} {s : Sl} (C : Cond G T F0 H0 B F σ H env) (hs : SlR G F H (some x) s) (hf : ∀ o, s ≠ .ow true o) (ho : ∀ a, (∃ b o, s = .ow b o) → x = .ref a → Fz H0 B a ∧ ∀ j b o, σ[j]? = some (some (V.ref a)) → env[j]? = some (Sl.ow b o) → j = i) :
    Cond G T F0 H0 B F (σ.set i (some x)) H (env.set i s) := by
  refine ⟨⟨C.now.same, by rw [List.length_set, List.length_set]; exact C.now.len, fun j t ht => ?_, fun j j' a b b' o o' h1 h2 h3 h4 => ?_, fun j o ht => ?_⟩, C.ext.s0, C.ext.fresh, C.ext.pres, fun a ha => ?_⟩
  · rcases set_at ht with ⟨rfl, rfl⟩ | ⟨hj, ht⟩
    · refine ⟨some x, ?_, hs⟩
      rw [List.getElem?_set_self]
      have := (List.getElem?_eq_some_iff.mp ht).1
      rw [List.length_set, C.now.len] at this
      exact this
    · obtain ⟨y, h1, h2⟩ := C.now.sl j t ht
      exact ⟨y, by rw [List.getElem?_set_ne (Ne.symm hj)]; exact h1, h2⟩
  · rcases set_at h3 with ⟨e, q⟩ | ⟨hj, k3⟩
    · subst e
      rcases set_at h1 with ⟨_, e1⟩ | ⟨q, _⟩
      · cases e1
        rcases set_at h4 with ⟨e, _⟩ | ⟨hj', k4⟩
        · exact e.symm
        · rw [List.getElem?_set_ne (Ne.symm hj')] at h2
          exact ((ho a ⟨b, o, q.symm⟩ rfl).2 j' b' o' h2 k4).symm
      · exact absurd rfl q
    · rw [List.getElem?_set_ne (Ne.symm hj)] at h1
      rcases set_at h4 with ⟨e, q⟩ | ⟨hj', k4⟩
      · subst e
        rcases set_at h2 with ⟨_, e1⟩ | ⟨q, _⟩
        · cases e1
          exact (ho a ⟨b', o', q.symm⟩ rfl).2 j b o h1 k3
        · exact absurd rfl q
      · rw [List.getElem?_set_ne (Ne.symm hj')] at h2
        exact C.now.inj j j' a b b' o o' h1 h2 k3 k4
  · rcases set_at ht with ⟨_, q⟩ | ⟨hj, ht⟩
    · exact absurd q.symm (hf o)
    · obtain ⟨a, h1, h2⟩ := C.now.tr j o ht
      exact ⟨a, by rw [List.getElem?_set_ne (Ne.symm hj)]; exact h1, h2⟩
  · rcases own_set ha with ⟨b, o, q, rfl⟩ | ⟨j, b, o, _, h1, h2⟩
    · exact (ho a ⟨b, o, q⟩ rfl).1
    · exact C.ext.own a ⟨j, b, o, h1, h2⟩
/-- what other results stay behind a store -/
theorem HR.set {Z : Addr → Prop} {i : Nat} {x : V} {s : Sl} {r : R} {y : V} (h : HR G Z F σ H env r y) (hr : ∀ j, r ≠ .ow j) (hx : ∀ a, (∃ b o, s = .ow b o) → x = .ref a → ∀ o, r = .fr o → y ≠ .ref a) : HR G Z F (σ.set i (some x)) H (env.set i s) r y := by
  cases h with
  | v h => exact .v h
  | ow h => exact absurd rfl (hr _)
  | fr h1 h2 h3 h4 h5 =>
    refine .fr h1 h2 h3 (fun q => ?_) h5
    rcases own_set q with ⟨b, o, q0, q3⟩ | ⟨j, b, o, _, q1, q2⟩
    · exact hx _ ⟨b, o, q0⟩ q3 _ rfl rfl
    · exact h4 ⟨j, b, o, q1, q2⟩
theorem store_env {i : Nat} {s : Sl} {u : Unit} {e : Env} (h : store i s env = some (.ok u e)) : e = env.set i s ∧ ∃ t, env[i]? = some t := by
  unfold store at h
  cases q : env[i]? with
  | none => rw [q] at h; cases h
  | some t =>
    rw [q] at h
    cases t with
    | un => cases h; exact ⟨rfl, _, rfl⟩
    | v d => cases h; exact ⟨rfl, _, rfl⟩
    | ow b o => cases b <;> cases h; exact ⟨rfl, _, rfl⟩
theorem store_noex {i : Nat} {s : Sl} : ∀ x e, store i s env ≠ some (.ex x e) := by
  intro x e h
  unfold store at h
  split at h <;> cases h
/-- the slots outside of vs are as they were -/
def Chg (vs : List Nat) (σ σ' : St) : Prop := σ'.length = σ.length ∧ ∀ i, i ∉ vs → σ'[i]? = σ[i]?
theorem Chg.refl {vs : List Nat} : Chg vs σ σ := ⟨rfl, fun _ _ => rfl⟩
theorem Chg.trans {vs : List Nat} {σ' σ2 : St} (a : Chg vs σ σ') (b : Chg vs σ' σ2) : Chg vs σ σ2 := ⟨b.1.trans a.1, fun i h => (b.2 i h).trans (a.2 i h)⟩
theorem Chg.set {vs : List Nat} {i : Nat} {x : Option V} (h : i ∈ vs) : Chg vs σ (σ.set i x) := ⟨List.length_set, fun j hj => List.getElem?_set_ne fun (e : i = j) => hj (e ▸ h)⟩
theorem wipe_get {i : Nat} : ∀ {vs : List Nat}, (wipe σ vs)[i]? = if i ∈ vs then (σ[i]?).map fun _ => none else σ[i]?
  | [] => by simp [wipe]
  | v :: vs => by
    unfold wipe
    by_cases e : v = i
    · subst e
      rw [List.getElem?_set, if_pos rfl, if_pos List.mem_cons_self, wipe_length]
      split
      · rename_i h
        rw [List.getElem?_eq_getElem h]; rfl
      · rename_i h
        rw [List.getElem?_eq_none (by omega)]; rfl
    · rw [List.getElem?_set_ne e, wipe_get (vs := vs)]
      have : (i ∈ v :: vs) ↔ i ∈ vs := by
        rw [List.mem_cons]
        exact ⟨fun h => h.elim (fun q => absurd q.symm e) id, .inr⟩
      simp only [this]
theorem wipeE_length : ∀ vs : List Nat, (wipeE env vs).length = env.length
  | [] => rfl
  | v :: vs => by unfold wipeE; rw [List.length_set, wipeE_length vs]
theorem wipeE_get {i : Nat} : ∀ {vs : List Nat}, (wipeE env vs)[i]? = if i ∈ vs then (env[i]?).map fun _ => .un else env[i]?
  | [] => by simp [wipeE]
  | v :: vs => by
    unfold wipeE
    by_cases e : v = i
    · subst e
      rw [List.getElem?_set, if_pos rfl, if_pos List.mem_cons_self, wipeE_length]
      split
      · rename_i h
        rw [List.getElem?_eq_getElem h]; rfl
      · rename_i h
        rw [List.getElem?_eq_none (by omega)]; rfl
    · rw [List.getElem?_set_ne e, wipeE_get (vs := vs)]
      have : (i ∈ v :: vs) ↔ i ∈ vs := by
        rw [List.mem_cons]
        exact ⟨fun h => h.elim (fun q => absurd q.symm e) id, .inr⟩
      simp only [this]
theorem Chg.wipe {vs : List Nat} {σ' : St} (h : Chg vs σ σ') : L2.wipe σ' vs = L2.wipe σ vs := by
  have hl := h.1
  refine List.ext_getElem? fun i => ?_
  rw [wipe_get, wipe_get]
  by_cases hi : i ∈ vs
  · rw [if_pos hi, if_pos hi]
    by_cases q : i < σ.length
    · rw [List.getElem?_eq_getElem (l := σ) q, List.getElem?_eq_getElem (l := σ') (by rw [h.1]; exact q)]; rfl
    · rw [List.getElem?_eq_none (l := σ) (by omega), List.getElem?_eq_none (l := σ') (by rw [h.1]; omega)]
  · rw [if_neg hi, if_neg hi]
    exact h.2 i hi
theorem wipe_wipe {vs : List Nat} : L2.wipe (L2.wipe σ vs) vs = L2.wipe σ vs := by
  refine List.ext_getElem? fun i => ?_
  rw [wipe_get, wipe_get]
  split
  · cases σ[i]? <;> rfl
  · rfl
/-- a block's names are forgotten -/
theorem Cond.wipe (C : Cond G T F0 H0 B F σ H env) (vs : List Nat) : Cond G T F0 H0 B F (L2.wipe σ vs) H (wipeE env vs) := by
  have low : ∀ {i : Nat} {a : Addr}, (L2.wipe σ vs)[i]? = some (some (V.ref a)) → σ[i]? = some (some (V.ref a)) := fun {i a} h => (wipe_some h).1
  have lowE : ∀ {i : Nat} {b : Bool} {o : Ob}, (wipeE env vs)[i]? = some (Sl.ow b o) → env[i]? = some (Sl.ow b o) ∧ i ∉ vs := fun {i b o} h => by
    rw [wipeE_get] at h
    split at h
    · cases q : env[i]? with
      | none => rw [q] at h; cases h
      | some s => rw [q] at h; cases h
    · rename_i hn
      exact ⟨h, hn⟩
  refine ⟨⟨C.now.same, by rw [wipeE_length, wipe_length]; exact C.now.len, fun i s hs => ?_, fun i j a b c o p h1 h2 h3 h4 => C.now.inj i j a b c o p (low h1) (low h2) (lowE h3).1 (lowE h4).1, fun i o h => ?_⟩, C.ext.s0, C.ext.fresh, C.ext.pres, fun a ⟨i, b, o, h1, h2⟩ => C.ext.own a ⟨i, b, o, low h1, (lowE h2).1⟩⟩
  · rw [wipeE_get] at hs
    rw [wipe_get]
    by_cases hi : i ∈ vs
    · rw [if_pos hi] at hs ⊢
      cases q : env[i]? with
      | none => rw [q] at hs; cases hs
      | some t =>
        rw [q] at hs
        cases hs
        obtain ⟨y, h1, h2⟩ := C.now.sl i t q
        rw [h1]
        exact ⟨none, rfl, .un⟩
    · rw [if_neg hi] at hs ⊢
      exact C.now.sl i s hs
  · obtain ⟨h1, h2⟩ := lowE h
    obtain ⟨a, h3, h4⟩ := C.now.tr i o h1
    exact ⟨a, by rw [wipe_get, if_neg h2]; exact h3, h4⟩
theorem backE_length {env0 : Env} : ∀ vs : List Nat, (backE env0 env vs).length = env.length
  | [] => rfl
  | v :: vs => by unfold backE; rw [List.length_set, backE_length vs]
theorem backE_get {env0 : Env} {i : Nat} : ∀ {vs : List Nat}, (backE env0 env vs)[i]? = if i ∈ vs then (env[i]?).map fun _ => env0.getD i .un else env[i]?
  | [] => by simp [backE]
  | v :: vs => by
    unfold backE
    by_cases e : v = i
    · subst e
      rw [List.getElem?_set, if_pos rfl, if_pos List.mem_cons_self, backE_length]
      split
      · rename_i h
        rw [List.getElem?_eq_getElem h]; rfl
      · rename_i h
        rw [List.getElem?_eq_none (by omega)]; rfl
    · rw [List.getElem?_set_ne e, backE_get (vs := vs)]
      have : (i ∈ v :: vs) ↔ i ∈ vs := by
        rw [List.mem_cons]
        exact ⟨fun h => h.elim (fun q => absurd q.symm e) id, .inr⟩
      simp only [this]
/-- behind a block: its names as they were -/
theorem Cond.back {F2 H2 : Hp} {vs : List Nat} {σ2 : St} {e : Env} (C : Cond G T F0 H0 B F σ H env) (D : Cond G T F H (Own (L2.wipe σ vs) (wipeE env vs)) F2 σ2 H2 e) (hσ : σ2 = L2.wipe σ vs) : Cond G T F0 H0 B F2 σ H2 (backE env e vs) := by
  subst hσ
  -- a forgotten name's own object
  have keep : ∀ {i : Nat} {a : Addr} {b : Bool} {o : Ob} {u : HO}, i ∈ vs → σ[i]? = some (some (V.ref a)) → env[i]? = some (Sl.ow b o) → F a = none → H a = some u → F2 a = none ∧ H2 a = some u ∧ ¬ Own (L2.wipe σ vs) e a := fun {i a b o u} hi h1 h2 hF hH => by
    have nb : ¬ Own (L2.wipe σ vs) (wipeE env vs) a := fun ⟨j, b', o', q1, q2⟩ => by
      obtain ⟨q3, q4⟩ := wipe_some q1
      rw [wipeE_get, if_neg q4] at q2
      have := C.now.inj i j a b b' o o' h1 q3 h2 q2
      exact q4 (this ▸ hi)
    refine ⟨?_, D.ext.pres a u hH nb, fun q => ?_⟩
    · refine Decidable.byContradiction fun z => ?_
      rcases D.ext.fresh a z hF with q | q
      · rw [hH] at q; cases q
      · exact nb q
    · rcases D.ext.own a q with z | z
      · rw [hH] at z; cases z
      · exact nb z
  have lenD := D.now.len
  rw [wipe_length] at lenD
  -- where an own slot of the result comes from
  have src : ∀ {i : Nat} {a : Addr} {b : Bool} {o : Ob}, σ[i]? = some (some (V.ref a)) → (backE env e vs)[i]? = some (Sl.ow b o) → (i ∈ vs ∧ env[i]? = some (Sl.ow b o)) ∨ (i ∉ vs ∧ e[i]? = some (Sl.ow b o) ∧ (L2.wipe σ vs)[i]? = some (some (V.ref a))) := fun {i a b o} h1 h2 => by
    rw [backE_get] at h2
    by_cases hi : i ∈ vs
    · rw [if_pos hi] at h2
      have hlt : i < σ.length := (List.getElem?_eq_some_iff.mp h1).1
      have hlt2 : i < env.length := by rw [C.now.len]; exact hlt
      have h3 : env[i]? = some env[i] := List.getElem?_eq_getElem hlt2
      rw [List.getElem?_eq_getElem (by rw [lenD]; exact hlt)] at h2
      have h2 : some (env.getD i Sl.un) = some (Sl.ow b o) := h2
      rw [List.getD_eq_getElem?_getD, h3] at h2
      exact .inl ⟨hi, by rw [h3]; exact h2⟩
    · rw [if_neg hi] at h2
      exact .inr ⟨hi, h2, by rw [wipe_get, if_neg hi]; exact h1⟩
  have inj : ∀ (i j : Nat) (a : Addr) (b c : Bool) (o p : Ob), σ[i]? = some (some (V.ref a)) → σ[j]? = some (some (V.ref a)) → (backE env e vs)[i]? = some (Sl.ow b o) → (backE env e vs)[j]? = some (Sl.ow c p) → i = j := fun i j a b c o p h1 h2 h3 h4 => by
    rcases src h1 h3 with ⟨i1, i2⟩ | ⟨i1, i2, i3⟩
    · rcases src h2 h4 with ⟨j1, j2⟩ | ⟨j1, j2, j3⟩
      · exact C.now.inj i j a b c o p h1 h2 i2 j2
      · obtain ⟨y, z1, z2⟩ := C.now.sl i _ i2
        rw [h1] at z1
        cases z1
        cases z2 with
        | ow k1 k2 k3 => exact absurd ⟨j, c, p, j3, j2⟩ (keep i1 h1 i2 k1 k2).2.2
    · rcases src h2 h4 with ⟨j1, j2⟩ | ⟨j1, j2, j3⟩
      · obtain ⟨y, z1, z2⟩ := C.now.sl j _ j2
        rw [h2] at z1
        cases z1
        cases z2 with
        | ow k1 k2 k3 => exact absurd ⟨i, b, o, i3, i2⟩ (keep j1 h2 j2 k1 k2).2.2
      · exact D.now.inj i j a b c o p i3 j3 i2 j2
  have now : Now G T F2 σ H2 (backE env e vs) := by
    refine ⟨D.now.same, by rw [backE_length]; exact lenD, fun i s hs => ?_, inj, fun i o h => ?_⟩
    · rw [backE_get] at hs
      by_cases hi : i ∈ vs
      · rw [if_pos hi] at hs
        cases q : e[i]? with
        | none => rw [q] at hs; cases hs
        | some t =>
          rw [q] at hs
          cases hs
          have hlt : i < env.length := by
            have := (List.getElem?_eq_some_iff.mp q).1
            rw [lenD, ← C.now.len] at this
            exact this
          have h3 : env[i]? = some env[i] := List.getElem?_eq_getElem hlt
          obtain ⟨y, z1, z2⟩ := C.now.sl i _ h3
          refine ⟨y, z1, ?_⟩
          rw [List.getD_eq_getElem?_getD, h3]
          show SlR G F2 H2 y env[i]
          generalize env[i] = sl at z2 h3
          cases z2 with
          | un => exact .un
          | v k => exact .v (k.mono D.ext.s0)
          | ow k1 k2 k3 =>
            obtain ⟨w1, w2, _⟩ := keep hi z1 h3 k1 k2
            exact .ow w1 w2 (k3.mono D.ext.s0)
      · rw [if_neg hi] at hs
        obtain ⟨y, z1, z2⟩ := D.now.sl i s hs
        rw [wipe_get, if_neg hi] at z1
        exact ⟨y, z1, z2⟩
    · rw [backE_get] at h
      by_cases hi : i ∈ vs
      · rw [if_pos hi] at h
        cases q : e[i]? with
        | none => rw [q] at h; cases h
        | some t =>
          rw [q] at h
          have hlt : i < env.length := by
            have := (List.getElem?_eq_some_iff.mp q).1
            rw [lenD, ← C.now.len] at this
            exact this
          have h3 : env[i]? = some env[i] := List.getElem?_eq_getElem hlt
          have h : some (env.getD i Sl.un) = some (Sl.ow true o) := h
          rw [List.getD_eq_getElem?_getD, h3] at h
          exact C.now.tr i o (by rw [h3]; exact h)
      · rw [if_neg hi] at h
        obtain ⟨a, z1, z2⟩ := D.now.tr i o h
        rw [wipe_get, if_neg hi] at z1
        exact ⟨a, z1, z2⟩
  -- the frame: since (F, H)
  have subW : ∀ a, Own (L2.wipe σ vs) (wipeE env vs) a → Own σ env a := fun a ⟨i, b, o, h1, h2⟩ => by
    obtain ⟨q1, q2⟩ := wipe_some h1
    rw [wipeE_get, if_neg q2] at h2
    exact ⟨i, b, o, q1, h2⟩
  refine C.trans ⟨now, D.ext.s0, fun a h1 h2 => (D.ext.fresh a h1 h2).imp id (subW a), fun a o h1 h2 => D.ext.pres a o h1 fun q => h2 (subW a q), fun a ⟨i, b, o, h1, h2⟩ => ?_⟩
  rcases src h1 h2 with ⟨i1, i2⟩ | ⟨i1, i2, i3⟩
  · exact .inr ⟨i, b, o, h1, i2⟩
  · exact (D.ext.own a ⟨i, b, o, i3, i2⟩).imp id (subW a)
end
end Ev

set_option Elab.async false
set_option linter.all false
set_option maxRecDepth 100000
set_option maxHeartbeats 1000000
/-! The checker: a syntax tree of the model against mine. -/
namespace Ev
open PySem PySem.Spec L2
open PyProof.Rows hiding St

/-- the names of the defs, constants, exceptions' classes by number -/
structure Nm where
  fn : List Str
  cst : List Str
  xc : List Str
/-- where code stands: the slots' names, the scope, the names whose cells are its own -/
structure SC where
  N : List Str
  sc : Scope
  fnB : Str → Bool
def SC.blk (S : SC) (scope : Scope) : SC := ⟨S.N, relS scope S.sc, fun x => scope.names.lookup x == some .cell⟩
def visB (S : SC) (x : Str) : Bool := match S.sc.names.lookup x with
  | some .local => true
  | some .cell => true
  | some .free => true
  | _ => false
def glB (S : SC) (x : Str) : Bool := match S.sc.names.lookup x with
  | some .globalImplicit => true
  | _ => false
def locB (S : SC) (x : Str) : Bool := match S.sc.names.lookup x with
  | some .local => true
  | some .cell => S.fnB x
  | _ => false
def plainB (x : Str) : Bool := !(x == ("__debug__" : Str)) && !(x == ("__classdict__" : Str))
def tyN : Ty → String
  | .int => "int" | .bool => "bool" | .str => "str" | .tuple => "tuple" | .list => "list"
def bmN : Bm → String
  | .lindex => "index" | .lcount => "count"
def mmN : Mm → String
  | .append => "append" | .pop => "pop" | .extend => "extend"
def ownP (S : SC) (own : List Nat) : List (Str × Nat) := own.map fun i => (S.N.getD i Str.empty, i)
mutual
def chkT : T → SC → Expr → Bool
  | .nm i, S, .Name x _ => decide (S.N[i]? = some x) && locB S x
  | .tp ts, S, .Tuple es _ _ => chkTs ts S es
  | _, _, _ => false
def chkTs : Ts → SC → List Expr → Bool
  | .nil, _, [] => true
  | .cons t ts, S, e :: es => chkT t S e && chkTs ts S es
  | _, _, _ => false
end
mutual
def slT : T → List Nat
  | .nm i => [i]
  | .tp ts => slTs ts
def slTs : Ts → List Nat
  | .nil => []
  | .cons t ts => slT t ++ slTs ts
end
def isTr : E → Bool
  | .bl true => true
  | _ => false
def chkKs : List Key → List (Option Expr) → Bool
  | [], [] => true
  | .inl i :: ks, some (.Constant (.int j) _ _) :: xs => decide (i = j) && chkKs ks xs
  | .inr s :: ks, some (.Constant (.str t) _ _) :: xs => decide (s = t) && chkKs ks xs
  | _, _ => false
section
variable (nm : Nm)
mutual
def chkE : E → SC → Expr → Bool
  | .var i, S, .Name x _ => decide (S.N[i]? = some x) && (visB S x && plainB x)
  | .cst i, S, .Name x _ => decide (nm.cst[i]? = some x) && (glB S x && plainB x)
  | .fn f, S, .Name x _ => decide (nm.fn[f]? = some x) && (glB S x && plainB x)
  | .non, _, .Constant .none _ _ => true
  | .bl b, _, .Constant (.bool c) _ _ => b == c
  | .int i, _, .Constant (.int j) _ _ => decide (i = j)
  | .str s, _, .Constant (.str t) _ _ => decide (s = t)
  | .bin op a b, S, .BinOp x op' y _ => decide (op = op') && (chkE a S x && chkE b S y)
  | .neg a, S, .UnaryOp .USub x _ => chkE a S x
  | .not a, S, .UnaryOp .Not x _ => chkE a S x
  | .and a b, S, .BoolOp .And (x :: y :: r) p => chkE a S x && (match r with
    | [] => chkE b S y
    | _ :: _ => chkE b S (.BoolOp .And (y :: r) p))
  | .or a b, S, .BoolOp .Or (x :: y :: r) p => chkE a S x && (match r with
    | [] => chkE b S y
    | _ :: _ => chkE b S (.BoolOp .Or (y :: r) p))
  | .cmp op a b, S, .Compare x [op'] [y] _ => decide (op = op') && (chkE a S x && chkE b S y)
  | .chain op1 op2 a b c, S, .Compare x [o1, o2] [y, z] _ => decide (op1 = o1) && (decide (op2 = o2) && (chkE a S x && (chkE b S y && chkE c S z)))
  | .ite t a b, S, .IfExp u x y _ => chkE t S u && (chkE a S x && chkE b S y)
  | .tup es, S, .Tuple xs _ _ => chkL es S xs
  | .lst es, S, .List xs _ => chkL es S xs
  | .dct ks vs, S, .Dict xs ys _ => chkKs ks xs && (chkL vs S ys && (decide (xs.length = ys.length) && (!xs.isEmpty && decide (xs.length ≤ 15))))
  | .dct0, _, .Dict [] [] _ => true
  | .dic0, _, .Dict [] [] _ => true
  | .dic1 k v, S, .Dict [some x] [y] _ => chkE k S x && chkE v S y
  | .sset e, S, .Call (.Name f _) [.Call (.Name f2 _) [x] [] _] [] _ => decide (f = ("sorted" : Str)) && (decide (f2 = ("set" : Str)) && (glB S f && (glB S f2 && chkE e S x)))
  | .ix a b, S, .Subscript x y _ => chkE a S x && chkE b S y
  | .slN a, S, .Subscript x (.Slice none none none _) _ => chkE a S x
  | .slL a l, S, .Subscript x (.Slice (some y) none none _) _ => chkE a S x && chkE l S y
  | .slH a h, S, .Subscript x (.Slice none (some y) none _) _ => chkE a S x && chkE h S y
  | .slB a l h, S, .Subscript x (.Slice (some y) (some z) none _) _ => chkE a S x && (chkE l S y && chkE h S z)
  | .call f es, S, .Call (.Name x _) xs [] _ => decide (nm.fn[f]? = some x) && (glB S x && (plainB x && chkL es S xs))
  | .callv g es, S, .Call u xs [] _ => (match u with
    | .Attribute _ _ _ => false
    | _ => true) && (chkE g S u && chkL es S xs)
  | .bi b es, S, .Call (.Name x _) xs [] _ => decide ((biN b : Str) = x) && (glB S x && (!xs.isEmpty && chkL es S xs))
  | .isi e t, S, .Call (.Name f _) [x, .Name u _] [] _ => decide (f = ("isinstance" : Str)) && (glB S f && (decide (u = (tyN t : Str)) && (glB S u && chkE e S x)))
  | .bm m o es, S, .Call (.Attribute x n ap) xs [] p => decide (n = (bmN m : Str)) && ((ap.endLine == p.line) && (!xs.isEmpty && (decide (xs.length < 29) && ((match x with
    | .Call _ _ _ _ => false
    | _ => true) && (chkE o S x && chkL es S xs)))))
  | .mm m i es, S, .Call (.Attribute (.Name x _) n ap) xs [] p => decide (n = (mmN m : Str)) && ((ap.endLine == p.line) && (decide (xs.length < 29) && (decide (S.N[i]? = some x) && (visB S x && (plainB x && chkL es S xs)))))
  | .lc elt t it c own, S, .ListComp e [g] scope _ => decide (g.is_async = 0) && (blkC S.N S.sc scope (ownP S own) && ((slT t).all (fun i => own.contains i) && (chkT t (S.blk scope) g.target && (chkI it S g.target g.iter && ((match g.ifs with
    | [] => isTr c
    | [y] => chkE c (S.blk scope) y
    | _ => false) && chkE elt (S.blk scope) e)))))
  | .lc2 elt t it c t1 it1 c1 own own1, S, .ListComp e [g, g1] scope _ => decide (g.is_async = 0) && (decide (g1.is_async = 0) && (blkC S.N S.sc scope (ownP S own) && ((slT t).all (fun i => own.contains i) && ((slT t1).all (fun i => own1.contains i) && (own1.all (fun i => own.contains i) &&
    (chkT t (S.blk scope) g.target && (chkT t1 (S.blk scope) g1.target && (chkI it S g.target g.iter && (chkI it1 (S.blk scope) g1.target g1.iter && ((match g.ifs with
    | [] => isTr c
    | [y] => chkE c (S.blk scope) y
    | _ => false) && ((match g1.ifs with
    | [] => isTr c1
    | [y] => chkE c1 (S.blk scope) y
    | _ => false) && chkE elt (S.blk scope) e)))))))))))
  | _, _, _ => false
def chkL : Es → SC → List Expr → Bool
  | .nil, _, [] => true
  | .cons e es, S, x :: xs => chkE e S x && chkL es S xs
  | _, _, _ => false
def chkI : I → SC → Expr → Expr → Bool
  | .sq e, S, _, x => chkE e S x
  | .rng1 a, S, _, .Call (.Name f _) [x] [] _ => decide (f = ("range" : Str)) && (glB S f && chkE a S x)
  | .rng2 a b, S, _, .Call (.Name f _) [x, y] [] _ => decide (f = ("range" : Str)) && (glB S f && (chkE a S x && chkE b S y))
  | .enum a, S, .Tuple _ _ _, .Call (.Name f _) [x] [] _ => decide (f = ("enumerate" : Str)) && (glB S f && chkE a S x)
  | .zip a b, S, .Tuple _ _ _, .Call (.Name f _) [x, y] [] _ => decide (f = ("zip" : Str)) && (glB S f && (chkE a S x && chkE b S y))
  | _, _, _, _ => false
end
end
/-! ### what a checked expression is not -/
def noStar : Expr → Bool
  | .Starred _ _ => false
  | _ => true
theorem chk_star {nm : Nm} : ∀ {e : E} {S : SC} {x : Expr}, chkE nm e S x = true → noStar x = true := by
  intro e S x h
  cases x <;> first
    | rfl
    | (cases e <;> simp [chkE] at h)
theorem chk_slice {nm : Nm} : ∀ {e : E} {S : SC} {l h s : Option Expr} {p : Pos}, chkE nm e S (.Slice l h s p) = true → False := by
  intro e S l h s p q
  cases e <;> simp [chkE] at q
theorem chk_set {nm : Nm} : ∀ {e : E} {S : SC} {l : List Expr} {k : Nat} {p : Pos}, chkE nm e S (.Set l k p) = true → False := by
  intro e S l k p q
  cases e <;> simp [chkE] at q
end Ev

set_option Elab.async false
set_option linter.all false
set_option maxRecDepth 100000
set_option maxHeartbeats 1000000
/-! What code stands on; stores; calls. -/
namespace Ev
open PySem PySem.Spec L2
open PyProof.Rows hiding St

/-- FnOk, where nothing is being shown -/
structure FnG (P : Program) (w : World) (K : PySem.W.Frag) (mg : Str → Option Value) (base : Heap) (k : Nat) (f : Addr) (fd : FuncData) (ps : List Str) (sp : Sp) : Prop where
  len : ∀ vs H Q E, sp vs H Q E → vs.length = ps.length
  run : ∀ (A : Around) (outer : List PySem.Env) (s : Shared) (H : Hp) (args : Args) (us : List Value) (vs : List V) (Q : VK) (E : XK), Room k A → A.guards = some [] → Env0 P w K mg base A outer s H → BindsTo s fd args (ps.zip us) → Vals vs us →
    sp vs H Q E → codeAny (model P w) A (.call (.ref f) args) (CR (L2.CX P w) outer P w H s Q E) s

/-- the arguments as they lie -/
structure ArgsR (G : Adr) (F H : Hp) (vs : List V) (args : List Sl) : Prop where
  same : Same F H
  len : args.length = vs.length
  sl : ∀ (i : Nat) (s : Sl), args[i]? = some s → ∃ x, vs[i]? = some x ∧ SlR G F H (some x) s ∧ ∀ o, s ≠ .ow false o
  one : ∀ (i j : Nat) (b c : Bool) (o p : Ob), args[i]? = some (Sl.ow b o) → args[j]? = some (Sl.ow c p) → i = j
def TArg (vs : List V) : Nat → Addr → Prop := fun i a => vs[i]? = some (V.ref a)
def BArg (vs : List V) (args : List Sl) : Addr → Prop := fun a => ∃ (i : Nat) (b : Bool) (o : Ob), vs[i]? = some (V.ref a) ∧ args[i]? = some (Sl.ow b o)
/-- what a call hands back -/
def PRes (G : Adr) (F : Hp) (σ : St) (H : Hp) (env : Env) (Z : Addr → Prop) (r : PR) (v : V) : Prop := match r with
  | .v d => Rep G F v d
  | .fr o => ∃ a h, v = .ref a ∧ F a = none ∧ H a = some h ∧ RepO G F a h o ∧ Z a ∧ ∀ (i : Nat) (o' : Ob), σ[i]? = some (some (V.ref a)) → env[i]? = some (Sl.ow true o') → False
/-- what the call of a def promises: by the evaluator -/
def spF (G : Adr) (cf : CF) (f : Nat) (np : Nat) : Sp := fun vs H Q E => vs.length = np ∧ ∃ F args c, ArgsR G F H vs args ∧ cf f args = some c ∧ match c with
  | .ret r e => ∀ v σ' F' H', Cond G (TArg vs) F H (BArg vs args) F' σ' H' e → PRes G F' σ' H' e (Fz H (BArg vs args)) r v → Q v H'
  | .ex x e => ∀ cls d σ' F' H', Cond G (TArg vs) F H (BArg vs args) F' σ' H' e → XR G H' x cls d → E cls d H'
structure FnsOk (G : Adr) (nm : Nm) (tb : Tab) (cf : CF) (k : Nat) (P : Program) (w : World) (mg : Str → Option Value) (base : Heap) : Prop where
  ok : ∀ (f : Nat) (x : Str), nm.fn[f]? = some x → ∃ d fd ps, tb.fns f = some d ∧ FnG P w G.K mg base k (G.fn f) fd ps (spF G cf f d.np) ∧ Binds G.K fd ps []
/-- an own exception's class, without an own __init__ -/
structure XcOk (K : PySem.W.Frag) (mg : Str → Option Value) (x : Str) (C : Addr) : Prop where
  glob : mg x = some (.ref C)
  keep : PySem.W.keepIn K (.ref C) = true
  sub : PySem.W.subIn K (.ref C) (.type "BaseException") = some true
  ty : PySem.W.typeIn K (.ref C) = some (.type "type")
  self : PySem.W.exmOne K (.ref C) (.ref C) = some true
  base : ∃ B newId initId bmB, ExcBaseFacts B newId initId bmB ∧ PySem.W.excIn K C bmB newId = true
structure GloOk (G : Adr) (nm : Nm) (tb : Tab) (mg : Str → Option Value) : Prop where
  fn : ∀ (f : Nat) (x : Str), nm.fn[f]? = some x → mg x = some (.ref (G.fn f)) ∧ PySem.W.keepIn G.K (.ref (G.fn f)) = true
  dom : ∀ (f : Nat) (d : Def), tb.fns f = some d → ∃ x, nm.fn[f]? = some x
  cst : ∀ (i : Nat) (x : Str), nm.cst[i]? = some x → ∃ u v, mg x = some u ∧ RelV v u ∧ ∀ F, Rep G F v (tb.cst i)
  xc : ∀ (c : Nat) (x : Str), nm.xc[c]? = some x → XcOk G.K mg x (G.xc c)
  blt : ∀ x : String, x ∈ ["len", "abs", "int", "str", "repr", "tuple", "list", "sorted", "sum", "min", "max", "any", "all", "dict", "isinstance", "range", "zip", "enumerate", "set", "bool"] → mg (x : Str) = none
structure Good (G : Adr) (nm : Nm) (tb : Tab) (cf : CF) (k : Nat) (S : SC) (X : Cx) : Prop where
  hK : X.K = G.K
  hw : X.w = G.w
  hN : X.N = S.N
  nd : S.N.Nodup
  hs : X.env.scope = S.sc
  hf : X.fn = S.fnB
  calm : X.calm = true
  room : Room k X.A
  gd : X.A.guards = some []
  fns : FnsOk G nm tb cf k X.prog X.w X.mg X.base
  glo : GloOk G nm tb X.mg
section
variable {G : Adr} {nm : Nm} {tb : Tab} {cf : CF} {k : Nat} {S : SC} {X : Cx} {T : Nat → Addr → Prop} {W : WX} {F0 H0 F H : Hp} {B : Addr → Prop} {σ : St} {env : Env}
theorem Good.hu (g : Good G nm tb cf k S X) : X.A.units + 100 < cLine := by have := g.room.un; omega
theorem Good.vis (g : Good G nm tb cf k S X) {x : Str} (h : visB S x = true) : Vis X.env.scope x := by
  rw [g.hs]
  unfold visB at h
  split at h
  · exact .inl (by assumption)
  · exact .inr (.inl (by assumption))
  · exact .inr (.inr (by assumption))
  · cases h
theorem Good.gl (g : Good G nm tb cf k S X) {x : Str} (h : glB S x = true) : Gl X x := by
  show X.env.scope.names.lookup x = some .globalImplicit
  rw [g.hs]
  unfold glB at h
  split at h
  · assumption
  · cases h
theorem Good.loc (g : Good G nm tb cf k S X) {x : Str} (h : locB S x = true) : Loc X.env.scope x ∧ (X.fn x = true ∨ X.env.scope.names.lookup x = some .local) := by
  rw [g.hs, g.hf]
  unfold locB at h
  split at h
  · exact ⟨.inl (by assumption), .inr (by assumption)⟩
  · exact ⟨.inr (by assumption), .inl h⟩
  · cases h
theorem plain_db {x : Str} (h : plainB x = true) : (x == ("__debug__" : Str)) = false ∧ (x == ("__classdict__" : Str)) = false := by
  unfold plainB at h
  simp only [Bool.and_eq_true, Bool.not_eq_true'] at h
  exact h
/-- the block of a comprehension -/
theorem Good.blk (g : Good G nm tb cf k S X) (s : Shared) (H : Hp) (scope : Scope) (C : Addr) (cl : List (Str × Addr)) (fp : List Addr) : Good G nm tb cf k (S.blk scope) (X.blk s H scope (compEnvC scope cl C X.env) fp) :=
  ⟨g.hK, g.hw, g.hN, g.nd, by
    show relS scope X.env.scope = relS scope S.sc
    rw [g.hs], rfl, g.calm, g.room, g.gd, g.fns, g.glo⟩
theorem star_cons {e : Expr} {es : List Expr} {env : PySem.Env} (h : noStar e = true) : starEach (e :: es) env = (false, eval e env) :: starEach es env := by
  cases e <;> first
    | rfl
    | cases h
theorem chkL_star {nm : Nm} : ∀ {es : Es} {S : SC} {xs : List Expr}, chkL nm es S xs = true → ∀ x ∈ xs, noStar x = true
  | .nil, S, [], _ => fun _ h => nomatch h
  | .nil, S, _ :: _, h => by simp [chkL] at h
  | .cons e es, S, [], h => by simp [chkL] at h
  | .cons e es, S, x :: xs, h => by
    simp only [chkL, Bool.and_eq_true] at h
    obtain ⟨h1, h2⟩ := h
    intro y hy
    rcases List.mem_cons.mp hy with e | hy
    · rw [e]; exact chk_star h1
    · exact chkL_star h2 y hy
theorem any_star {env : PySem.Env} {pos : Pos} : ∀ {xs : List Expr}, (∀ x ∈ xs, noStar x = true) → (backTo pos (starEach xs env)).any (·.1) = false := by
  have key : ∀ {xs : List Expr}, (∀ x ∈ xs, noStar x = true) → (starEach xs env).any (·.1) = false := by
    intro xs
    induction xs with
    | nil => intro _; rfl
    | cons x xs ih =>
      intro h
      rw [star_cons (h x List.mem_cons_self), List.any_cons, ih fun y hy => h y (List.mem_cons_of_mem _ hy)]
      rfl
  intro xs h
  have := key h
  unfold backTo
  first
    | exact this
    | (simpa [List.any_map] using this)
/-! ### stores -/
theorem putR_ok {i : Nat} {r : R} {x : V} {u : Unit} {e : Env} (C : Cond G T F0 H0 B F σ H env) (h : HR G (Fz H0 B) F σ H env r x) (q : putR i r env = some (.ok u e)) : ∃ F', Cond G T F0 H0 B F' (σ.set i (some x)) H e ∧ Same F F' := by
  unfold putR at q
  cases r with
  | v d =>
    obtain ⟨rfl, _⟩ := store_env q
    cases h with
    | v h => exact ⟨F, C.set (.v h) (fun _ z => nomatch z) (fun a ⟨b, o, z⟩ => nomatch z), Same.refl _⟩
  | fr o =>
    obtain ⟨rfl, _⟩ := store_env q
    cases h with
    | fr h1 h2 h3 h4 h5 =>
      refine ⟨F, C.set (.ow h1 h2 h3) (fun _ z => by cases z) (fun a _ z => ?_), Same.refl _⟩
      cases z
      exact ⟨h5, fun j b o q1 q2 => absurd ⟨j, b, o, q1, q2⟩ h4⟩
  | ow j =>
    have q : bnd (frz (.ow j)) (fun d => store i (.v d)) env = some (.ok u e) := q
    unfold bnd at q
    cases z : frz (.ow j) env with
    | none => rw [z] at q; cases q
    | some o =>
      rw [z] at q
      cases o with
      | ex x' e' => exact absurd z (frz_noex _ _ _ _)
      | ok d e' =>
        obtain ⟨F', C', h', sf, _⟩ := frz_ok C h z
        obtain ⟨rfl, _⟩ := store_env q
        exact ⟨F', C'.set (.v h') (fun _ z => nomatch z) (fun a ⟨b, o, z⟩ => nomatch z), sf⟩
theorem putR_noex {i : Nat} {r : R} : ∀ x e, putR i r env ≠ some (.ex x e) := by
  intro x e h
  unfold putR at h
  cases r with
  | v d => exact store_noex x e h
  | fr o => exact store_noex x e h
  | ow j =>
    have h : bnd (frz (.ow j)) (fun d => store i (.v d)) env = some (.ex x e) := h
    unfold bnd at h
    cases z : frz (.ow j) env with
    | none => rw [z] at h; cases h
    | some o =>
      rw [z] at h
      cases o with
      | ex x' e' => exact frz_noex _ _ _ _ z
      | ok d e' => exact store_noex x e h
/-- what is wanted behind a target's store -/
def GoU (G : Adr) (T : Nat → Addr → Prop) (F0 H0 : Hp) (B : Addr → Prop) (vs : List Nat) (F : Hp) (σ : St) (H : Hp) (o : Option (O Unit)) (Q : St → Hp → Prop) : Prop := match o with
  | some (.ok _ e) => ∀ F' σ', Cond G T F0 H0 B F' σ' H e → Same F F' → Chg vs σ σ' → Q σ' H
  | _ => False
def tG (G : Adr) (T : Nat → Addr → Prop) (t : Ev.T) : TG := fun x σ H Q => ∃ F0 H0 B F env r, Cond G T F0 H0 B F σ H env ∧ HR G (Fz H0 B) F σ H env r x ∧ GoU G T F0 H0 B (slT t) F σ H (asgT t r env) Q
def tGs (G : Adr) (T : Nat → Addr → Prop) (ts : Ts) : TGs := fun xs σ H Q => ∃ F0 H0 B F env ds, Cond G T F0 H0 B F σ H env ∧ RepL G F xs ds ∧ ds.length = ts.len ∧ GoU G T F0 H0 B (slTs ts) F σ H (asgTs ts ds env) Q
theorem assign_star : ∀ {ts : Ts} {S : SC} {es : List Expr}, chkTs ts S es = true → ∀ env : PySem.Env, (assignEach es env).length = es.length ∧ (assignEach es env).findIdx? (·.1) = none ∧ es.length = ts.len
  | .nil, S, [], _, env => ⟨rfl, rfl, rfl⟩
  | .nil, S, _ :: _, h, _ => by simp [chkTs] at h
  | .cons t ts, S, [], h, _ => by simp [chkTs] at h
  | .cons t ts, S, e :: es, h, env => by
    have h : (chkT t S e && chkTs ts S es) = true := h
    obtain ⟨h1, h2⟩ := Bool.and_eq_true_iff.mp h
    obtain ⟨q1, q2, q3⟩ := assign_star h2 env
    have he : assignEach (e :: es) env = (false, assign e env) :: assignEach es env := by
      cases e <;> first
        | rfl
        | (cases t <;> simp [chkT] at h1)
    rw [he]
    refine ⟨by rw [List.length_cons, q1, List.length_cons], ?_, by rw [List.length_cons, q3]; rfl⟩
    rw [List.findIdx?_cons]
    simp only [Bool.false_eq_true, if_false, q2, Option.map_none]
theorem pg_mono {e : Expr} {t t' : TG} (h : PG X e t) (m : ∀ v σ H Q, t' v σ H Q → t v σ H Q) : PG X e t' := ⟨fun pins s σ H v u Q I r hw => h.run pins s σ H v u Q I r (m v σ H Q hw)⟩
theorem pgs_mono {e : List Expr} {t t' : TGs} (h : PGs X e t) (m : ∀ v σ H Q, t' v σ H Q → t v σ H Q) : PGs X e t' := ⟨fun pins s σ H v u Q I r hw => h.run pins s σ H v u Q I r (m v σ H Q hw)⟩
theorem GoU.bnd {β : Type} {vs ws : List Nat} {m : M Unit} {f : Unit → M Unit} {Q : St → Hp → Prop} (g : GoU G T F0 H0 B vs F σ H (bnd m f env) Q) : ∃ e, m env = some (.ok () e) ∧ GoU G T F0 H0 B vs F σ H (f () e) Q := by
  unfold Ev.bnd at g
  cases q : m env with
  | none => rw [q] at g; exact g.elim
  | some o =>
    rw [q] at g
    cases o with
    | ex x e => exact g.elim
    | ok u e => exact ⟨e, rfl, g⟩
theorem pg_or {X : Cx} {tg : Expr} {g1 g2 : TG} (h1 : PG X tg g1) (h2 : PG X tg g2) : PG X tg (fun v σ H Q => g1 v σ H Q ∨ g2 v σ H Q) := ⟨fun pins s σ H v u Q I r hw => hw.elim (fun h => h1.run pins s σ H v u Q I r h) (fun h => h2.run pins s σ H v u Q I r h)⟩
mutual
theorem sT (g : Good G nm tb cf k S X) : ∀ (t : Ev.T) {e : Expr}, chkT t S e = true → PG X e (tG G T t)
  | .nm i, e, h => by
    cases e <;> first
      | (simp [chkT] at h; done)
      | skip
    rename_i x p
    have h : (decide (S.N[i]? = some x) && locB S x) = true := h
    obtain ⟨h1, h2⟩ := Bool.and_eq_true_iff.mp h
    obtain ⟨l1, l2⟩ := g.loc h2
    refine pg_mono (pg_name (i := i) (by rw [g.hN]; exact g.nd) (by rw [g.hN]; exact of_decide_eq_true h1) l1 l2) fun v σ H Q hq => ?_
    obtain ⟨F0, H0, B, F, env, r, C, hr, go⟩ := hq
    have go : GoU G T F0 H0 B [i] F σ H (putR i r env) Q := go
    show Q (σ.set i (some v)) H
    cases q : putR i r env with
    | none => rw [q] at go; exact go.elim
    | some o =>
      rw [q] at go
      cases o with
      | ex x e => exact go.elim
      | ok u e =>
        obtain ⟨F', C', sf⟩ := putR_ok C hr q
        exact go F' _ C' sf (Chg.set List.mem_cons_self)
  | .tp ts, e, h => by
    cases e <;> first
      | (simp [chkT] at h; done)
      | skip
    rename_i es kk p
    have h : chkTs ts S es = true := h
    obtain ⟨q1, q2, q3⟩ := assign_star h X.env
    refine pg_mono (pg_or (pg_tup g.calm (sTs g ts h) q1 q2) (pg_lst g.calm (sTs g ts h) q1 q2)) fun v σ H Q hq => ?_
    obtain ⟨F0, H0, B, F, env, r, C, hr, go⟩ := hq
    have go : GoU G T F0 H0 B (slTs ts) F σ H (match (cont env r).bind unpD with
      | some l => if l.length = ts.len then asgTs ts l env else none
      | none => none) Q := go
    cases q : cont env r with
    | none => rw [q] at go; exact go.elim
    | some d =>
      rw [q] at go
      cases d <;> first
        | exact go.elim
        | skip
      · rename_i l
        have go : GoU G T F0 H0 B (slTs ts) F σ H (if l.length = ts.len then asgTs ts l env else none) Q := go
        split at go
        · rename_i hl
          obtain ⟨a, xs, rfl, hT, rl⟩ := (hr.cont C.now q).tup C.now.same
          exact .inl ⟨a, xs, rfl, by rw [g.hK]; exact hT, by rw [rl.length, hl, q3], F0, H0, B, F, env, l, C, rl, hl, go⟩
        · exact go.elim
      · rename_i l
        have go : GoU G T F0 H0 B (slTs ts) F σ H (if l.length = ts.len then asgTs ts l env else none) Q := go
        split at go
        · rename_i hl
          obtain ⟨a, xs, rfl, hT, rl⟩ := (hr.cont C.now q).lst C.now.same
          exact .inr ⟨a, xs, rfl, .inl hT, by rw [rl.length, hl, q3], F0, H0, B, F, env, l, C, rl, hl, go⟩
        · exact go.elim
theorem sTs (g : Good G nm tb cf k S X) : ∀ (ts : Ts) {es : List Expr}, chkTs ts S es = true → PGs X es (tGs G T ts)
  | .nil, [], _ => by
    refine pgs_mono pgs_nil fun xs σ H Q hq => ?_
    obtain ⟨F0, H0, B, F, env, ds, C, rl, hl, go⟩ := hq
    have e0 : ds = [] := List.length_eq_zero_iff.mp hl
    subst e0
    cases rl
    exact ⟨rfl, go F σ C (Same.refl _) Chg.refl⟩
  | .nil, _ :: _, h => by simp [chkTs] at h
  | .cons t ts, [], h => by simp [chkTs] at h
  | .cons t ts, e :: es, h => by
    have h : (chkT t S e && chkTs ts S es) = true := h
    obtain ⟨h1, h2⟩ := Bool.and_eq_true_iff.mp h
    have he : (assignEach (e :: es) X.env).map (·.2) = assign e X.env :: (assignEach es X.env).map (·.2) := by
      cases e <;> first
        | rfl
        | (cases t <;> simp [chkT] at h1)
    refine pgs_mono (pgs_cons (sT g t h1) (sTs g ts h2) he) fun xs σ H Q hq => ?_
    obtain ⟨F0, H0, B, F, env, ds, C, rl, hl, go⟩ := hq
    cases rl with
    | nil => cases hl
    | @cons v vs d ds hd rl =>
      refine ⟨v, vs, rfl, ?_⟩
      have go : GoU G T F0 H0 B (slT t ++ slTs ts) F σ H (bnd (asgT t (.v d)) (fun _ => asgTs ts ds) env) Q := go
      obtain ⟨e1, q1, go⟩ := GoU.bnd (β := Unit) (ws := []) go
      refine ⟨F0, H0, B, F, env, .v d, C, .v hd, ?_⟩
      rw [q1]
      intro F' σ' C' sf ch
      refine ⟨F0, H0, B, F', e1, ds, C', rl.mono sf, Nat.succ.inj hl, ?_⟩
      unfold GoU at go ⊢
      cases q2 : asgTs ts ds e1 with
      | none => rw [q2] at go; exact go.elim
      | some o =>
        rw [q2] at go
        cases o with
        | ex x e => exact go.elim
        | ok u e2 => exact fun F2 σ2 C2 sf2 ch2 => go F2 σ2 C2 (sf.trans sf2) ⟨ch2.1.trans ch.1, fun i hi => (ch2.2 i fun z => hi (List.mem_append_right _ z)).trans (ch.2 i fun z => hi (List.mem_append_left _ z))⟩
end
end
end Ev

set_option Elab.async false
set_option linter.all false
set_option maxRecDepth 100000
set_option maxHeartbeats 1000000
/-! Calls of the defs. -/
namespace Ev
open PySem PySem.Spec L2
open PyProof.Rows hiding St
section
variable {G : Adr} {nm : Nm} {tb : Tab} {cf : CF} {k : Nat} {S : SC} {X : Cx} {T : Nat → Addr → Prop} {W : WX} {F0 H0 F H : Hp} {B : Addr → Prop} {σ : St} {env : Env}
/-- an argument as it lies -/
def ArR (G : Adr) (F : Hp) (σ : St) : Ar → V → Prop
  | .v d, x => Rep G F x d
  | .ow i, x => σ[i]? = some (some x)
inductive ArRs (G : Adr) (F : Hp) (σ : St) (bor : Option Nat) : Nat → List Ar → List V → Prop
  | nil {j : Nat} : ArRs G F σ bor j [] []
  | cons {j : Nat} {a : Ar} {as : List Ar} {x : V} {xs : List V} : ArR G F σ a x → (∀ i, a = .ow i → bor = some j) → ArRs G F σ bor (j + 1) as xs → ArRs G F σ bor j (a :: as) (x :: xs)
theorem ArRs.length {bor : Option Nat} : ∀ {j : Nat} {as : List Ar} {xs : List V}, ArRs G F σ bor j as xs → xs.length = as.length
  | _, _, _, .nil => rfl
  | _, _, _, .cons _ _ r => congrArg (· + 1) r.length
theorem bnd_some {α β : Type} {m : M α} {f : α → M β} {o : O β} (h : bnd m f env = some o) : (∃ x e, m env = some (.ex x e) ∧ o = .ex x e) ∨ ∃ a e, m env = some (.ok a e) ∧ f a e = some o := by
  unfold bnd at h
  cases q : m env with
  | none => rw [q] at h; cases h
  | some u =>
    rw [q] at h
    cases u with
    | ex x e => cases h; exact .inl ⟨x, e, rfl, rfl⟩
    | ok a e => exact .inr ⟨a, e, rfl, h⟩
theorem argR_noex {b : Bool} {r : R} : ∀ {env : Env} x e, argR b r env ≠ some (.ex x e) := by
  intro env x e h
  have fz : ∀ r, bnd (frz r) (fun d => ret (Ar.v d)) env = some (O.ex x e) → False := fun r h => by
    rcases bnd_some h with ⟨x', e', q, _⟩ | ⟨a, e', _, q⟩
    · exact frz_noex _ _ _ _ q
    · cases q
  unfold argR at h
  cases b <;> cases r <;> first
    | exact fz _ h
    | cases h
theorem argsR_noex {bor : Option Nat} : ∀ {rs : List R} {j : Nat} {env : Env} x e, argsR bor j rs env ≠ some (.ex x e)
  | [], _, _, _, _, h => by cases h
  | r :: rs, j, env, x, e, h => by
    rcases bnd_some (show bnd (argR (bor == some j) r) (fun a => bnd (argsR bor (j + 1) rs) fun as => ret (a :: as)) env = some (.ex x e) from h) with ⟨x', e', q, _⟩ | ⟨a, e', _, q⟩
    · exact argR_noex _ _ q
    · rcases bnd_some q with ⟨x', e2, q2, _⟩ | ⟨as, e2, _, q2⟩
      · exact argsR_noex _ _ q2
      · cases q2
/-- the arguments are shared, but the one that may be changed -/
theorem args_ok {bor : Option Nat} : ∀ {rs : List R} {xs : List V} {j : Nat} {F : Hp} {env : Env} {as : List Ar} {env' : Env}, Cond G T F0 H0 B F σ H env → HRs G (Fz H0 B) F σ H env rs xs → argsR bor j rs env = some (.ok as env') →
    ∃ F', Cond G T F0 H0 B F' σ H env' ∧ Same F F' ∧ ArRs G F' σ bor j as xs
  | [], _, j, F, env, as, env', C, .nil, e => by cases e; exact ⟨F, C, Same.refl _, .nil⟩
  | r :: rs, _, j, F, env, as, env', C, .cons (x := x) (xs := xs) h ap t, e => by
    rcases bnd_some (show bnd (argR (bor == some j) r) (fun a => bnd (argsR bor (j + 1) rs) fun as => ret (a :: as)) env = some (.ok as env') from e) with ⟨x', e', q, z⟩ | ⟨a, e1, q, e⟩
    · cases z
    · have key : ∃ F1, Cond G T F0 H0 B F1 σ H e1 ∧ Same F F1 ∧ ArR G F1 σ a x ∧ (∀ i, a = .ow i → bor = some j) ∧ HRs G (Fz H0 B) F1 σ H e1 rs xs := by
        have fz : bnd (frz r) (fun d => ret (Ar.v d)) env = some (.ok a e1) → ∃ F1, Cond G T F0 H0 B F1 σ H e1 ∧ Same F F1 ∧ ArR G F1 σ a x ∧ (∀ i, a = .ow i → bor = some j) ∧ HRs G (Fz H0 B) F1 σ H e1 rs xs := fun q => by
          rcases bnd_some q with ⟨_, _, _, z⟩ | ⟨d, e2, q1, q2⟩
          · cases z
          · cases q2
            obtain ⟨F1, C1, h1, sf, l⟩ := frz_ok C h q1
            exact ⟨F1, C1, sf, h1, fun _ z => (nomatch z), frz_oks (d := d) l t ap⟩
        unfold argR at q
        cases hb : (bor == some j) with
        | false =>
          rw [hb] at q
          exact fz (by cases r <;> exact q)
        | true =>
          rw [hb] at q
          cases r with
          | v d => exact fz q
          | fr o => exact fz q
          | ow i =>
            cases q
            cases h with
            | ow h => exact ⟨F, C, Same.refl _, h, fun _ _ => eq_of_beq hb, t⟩
      obtain ⟨F1, C1, sf, h1, h2, t1⟩ := key
      rcases bnd_some e with ⟨_, _, _, z⟩ | ⟨as', e2, q1, q2⟩
      · cases z
      · cases q2
        obtain ⟨F2, C2, sf2, r2⟩ := args_ok C1 t1 q1
        refine ⟨F2, C2, sf.trans sf2, .cons ?_ h2 r2⟩
        cases a with
        | v d => exact Rep.mono sf2 h1
        | ow i => exact h1
theorem slsOf_len : ∀ {as : List Ar} {sls : List Sl}, slsOf env as = some sls → sls.length = as.length
  | [], _, e => by cases e; rfl
  | a :: as, sls, e => by
    have e : (match slOf env a, slsOf env as with
      | some s, some ss => some (s :: ss)
      | _, _ => none) = some sls := e
    cases q1 : slOf env a with
    | none => rw [q1] at e; cases e
    | some s =>
      cases q2 : slsOf env as with
      | none => rw [q1, q2] at e; cases e
      | some ss =>
        rw [q1, q2] at e
        cases e
        exact congrArg (· + 1) (slsOf_len q2)
theorem slsOf_at : ∀ {as : List Ar} {sls : List Sl} {i : Nat} {s : Sl}, slsOf env as = some sls → sls[i]? = some s → ∃ a, as[i]? = some a ∧ slOf env a = some s
  | [], _, _, _, e, h => by cases e; simp at h
  | a :: as, sls, i, s, e, h => by
    have e : (match slOf env a, slsOf env as with
      | some s, some ss => some (s :: ss)
      | _, _ => none) = some sls := e
    cases q1 : slOf env a with
    | none => rw [q1] at e; cases e
    | some s1 =>
      cases q2 : slsOf env as with
      | none => rw [q1, q2] at e; cases e
      | some ss =>
        rw [q1, q2] at e
        cases e
        cases i with
        | zero =>
          cases h
          exact ⟨a, rfl, q1⟩
        | succ i => exact slsOf_at (i := i) q2 h
theorem ArRs.at {bor : Option Nat} : ∀ {j : Nat} {as : List Ar} {xs : List V} {i : Nat} {a : Ar}, ArRs G F σ bor j as xs → as[i]? = some a → ∃ x, xs[i]? = some x ∧ ArR G F σ a x ∧ ∀ m, a = .ow m → bor = some (j + i)
  | _, _, _, _, _, .nil, h => by simp at h
  | j, _, _, 0, a, .cons h1 h2 _, h => by
    cases h
    exact ⟨_, rfl, h1, fun m e => h2 m e⟩
  | j, _, _, i + 1, a, .cons _ _ r, h => by
    obtain ⟨x, q1, q2, q3⟩ := r.at (i := i) h
    exact ⟨x, q1, q2, fun m e => (q3 m e).trans (by rw [Nat.add_assoc, Nat.add_comm 1 i])⟩
theorem slOf_ow {a : Ar} {b : Bool} {o : Ob} (h : slOf env a = some (.ow b o)) : b = true ∧ ∃ i c, a = .ow i ∧ env[i]? = some (Sl.ow c o) := by
  cases a with
  | v d => cases h
  | ow i =>
    have h : (match env[i]? with
      | some (Sl.ow _ o) => some (Sl.ow true o)
      | some (Sl.v d) => some (Sl.v d)
      | _ => none) = some (Sl.ow b o) := h
    cases q : env[i]? with
    | none => rw [q] at h; cases h
    | some s =>
      rw [q] at h
      cases s with
      | un => cases h
      | v d => cases h
      | ow c o' => cases h; exact ⟨rfl, i, c, rfl, q⟩
/-- the arguments, as the callee gets them -/
theorem args_in {bor : Option Nat} {as : List Ar} {xs : List V} {sls : List Sl} (n : Now G T F σ H env) (h : ArRs G F σ bor 0 as xs) (e : slsOf env as = some sls) : ArgsR G F H xs sls := by
  refine ⟨n.same, by rw [slsOf_len e, h.length], fun i s hs => ?_, fun i j b c o p h1 h2 => ?_⟩
  · obtain ⟨a, q1, q2⟩ := slsOf_at e hs
    obtain ⟨x, w1, w2, _⟩ := h.at q1
    refine ⟨x, w1, ?_, fun o z => ?_⟩
    · cases a with
      | v d => cases q2; exact .v w2
      | ow m =>
        have q2 : (match env[m]? with
          | some (Sl.ow _ o) => some (Sl.ow true o)
          | some (Sl.v d) => some (Sl.v d)
          | _ => none) = some s := q2
        cases q : env[m]? with
        | none => rw [q] at q2; cases q2
        | some t =>
          rw [q] at q2
          obtain ⟨y, k1, k2⟩ := n.sl m t q
          have w2 : σ[m]? = some (some x) := w2
          rw [w2] at k1
          cases k1
          cases k2 with
          | un => cases q2
          | v k => cases q2; exact .v k
          | ow k1 k2 k3 => cases q2; exact .ow k1 k2 k3
    · rw [z] at q2
      obtain ⟨z, _⟩ := slOf_ow q2
      cases z
  · obtain ⟨a, q1, q2⟩ := slsOf_at e h1
    obtain ⟨a', q3, q4⟩ := slsOf_at e h2
    obtain ⟨_, m, _, rfl, _⟩ := slOf_ow q2
    obtain ⟨_, m', _, rfl, _⟩ := slOf_ow q4
    obtain ⟨_, _, _, w⟩ := h.at q1
    obtain ⟨_, _, _, w'⟩ := h.at q3
    have e1 := w m rfl
    have e2 := w' m' rfl
    rw [e1] at e2
    have := Option.some.inj e2
    omega
/-- the call of a def, in the caller's state -/
theorem after_call {bor : Option Nat} {as : List Ar} {xs : List V} {sls : List Sl} {F2 H2 : Hp} {σ2 : St} {e : Env} (C : Cond G T F0 H0 B F σ H env) (h : ArRs G F σ bor 0 as xs) (es : slsOf env as = some sls)
    (D : Cond G (TArg xs) F H (BArg xs sls) F2 σ2 H2 e) {env2 : Env} (hb : (∃ i j b o o', slotOf bor as = some (i, j) ∧ env[i]? = some (Sl.ow b o) ∧ e[j]? = some (Sl.ow true o') ∧ env2 = env.set i (.ow b o')) ∨ ((∀ i j, slotOf bor as = some (i, j) → ∃ d, env[i]? = some (Sl.v d)) ∧ env2 = env)) :
    Cond G T F0 H0 B F2 σ H2 env2 ∧ ∀ {r : PR} {v : V}, PRes G F2 σ2 H2 e (Fz H (BArg xs sls)) r v → HR G (Fz H0 B) F2 σ H2 env2 r.r v := by
  -- an argument that is handed in is an own object of ours
  have isOwn : ∀ a, BArg xs sls a → ∃ j i c o o', bor = some j ∧ as[j]? = some (.ow i) ∧ xs[j]? = some (V.ref a) ∧ σ[i]? = some (some (V.ref a)) ∧ env[i]? = some (Sl.ow c o) ∧ sls[j]? = some (Sl.ow true o') := fun a ⟨j, b, o, h1, h2⟩ => by
    obtain ⟨ar, q1, q2⟩ := slsOf_at es h2
    obtain ⟨rfl, i, c, rfl, q3⟩ := slOf_ow q2
    obtain ⟨x, w1, w2, w3⟩ := h.at q1
    rw [h1] at w1
    cases w1
    have w3 := w3 i rfl
    rw [Nat.zero_add] at w3
    exact ⟨j, i, c, o, o, w3, q1, h1, w2, q3, h2⟩
  have sub : ∀ a, BArg xs sls a → Own σ env a := fun a hb => by
    obtain ⟨j, i, c, o, o', _, _, _, h1, h2, _⟩ := isOwn a hb
    exact ⟨i, c, o, h1, h2⟩
  -- an own object that is not handed in
  have keep : ∀ {a : Addr} {u : HO}, ¬ BArg xs sls a → F a = none → H a = some u → F2 a = none ∧ H2 a = some u := fun {a u} nb hF hH => ⟨by
    refine Decidable.byContradiction fun z => ?_
    rcases D.ext.fresh a z hF with q | q
    · rw [hH] at q; cases q
    · exact nb q, D.ext.pres a u hH nb⟩
  have fin : ∀ env2, Now G T F2 σ H2 env2 → (∀ a, Own σ env2 a → Own σ env a) → Cond G T F0 H0 B F2 σ H2 env2 := fun env2 n so =>
    C.trans ⟨n, D.ext.s0, fun a h1 h2 => (D.ext.fresh a h1 h2).imp id (sub a), fun a o h1 h2 => D.ext.pres a o h1 fun q => h2 (sub a q), fun a q => .inr (so a q)⟩
  have res : ∀ env2, (∀ a, Own σ env2 a → Own σ env a) → (∀ a, BArg xs sls a → ∃ (i : Nat) (o' : Ob), σ2[i]? = some (some (V.ref a)) ∧ e[i]? = some (Sl.ow true o')) → ∀ {r : PR} {v : V}, PRes G F2 σ2 H2 e (Fz H (BArg xs sls)) r v → HR G (Fz H0 B) F2 σ H2 env2 r.r v := fun env2 so hb r v p => by
    cases r with
    | v d => exact .v p
    | fr o =>
      obtain ⟨a, u, rfl, h1, h2, h3, h4, h5⟩ := p
      have hn : H a = none := by
        rcases h4 with h4 | h4
        · exact h4
        · obtain ⟨i, o', q1, q2⟩ := hb a h4
          exact (h5 i o' q1 q2).elim
      refine .fr h1 h2 h3 (fun q => ?_) (C.fz (.inl hn))
      obtain ⟨i, b, o', q1, q2⟩ := so a q
      obtain ⟨y, z1, z2⟩ := C.now.sl i _ q2
      rw [q1] at z1
      cases z1
      cases z2 with
      | ow k1 k2 k3 => rw [hn] at k2; cases k2
  rcases hb with ⟨i, j, b, o, o', hs, hi, hj, rfl⟩ | ⟨hn, rfl⟩
  · -- slot i is handed in as the argument j
    have hbor : bor = some j ∧ as[j]? = some (.ow i) := by
      unfold slotOf at hs
      cases bor with
      | none => cases hs
      | some j' =>
        have hs : (match as[j']? with
          | some (Ar.ow i) => some (i, j')
          | _ => none) = some (i, j) := hs
        cases q : as[j']? with
        | none => rw [q] at hs; cases hs
        | some a =>
          rw [q] at hs
          cases a with
          | v d => cases hs
          | ow m => cases hs; exact ⟨rfl, q⟩
    obtain ⟨x, w1, w2, _⟩ := h.at hbor.2
    have w2 : σ[i]? = some (some x) := w2
    obtain ⟨a, k1, k2⟩ := D.now.tr j o' hj
    have k2 : xs[j]? = some (V.ref a) := k2
    rw [w1] at k2
    cases k2
    obtain ⟨y, z1, z2⟩ := D.now.sl j _ hj
    rw [k1] at z1
    cases z1
    have so : ∀ c, Own σ (env.set i (.ow b o')) c → Own σ env c := fun c ⟨m, b', o2, q1, q2⟩ => by
      rcases set_at q2 with ⟨rfl, _⟩ | ⟨_, q2⟩
      · exact ⟨m, b, o, q1, hi⟩
      · exact ⟨m, b', o2, q1, q2⟩
    have onlyA : ∀ c, BArg xs sls c → c = a := fun c hc => by
      obtain ⟨j2, i2, c2, o2, o3, e1, _, e3, _, _, _⟩ := isOwn c hc
      rw [hbor.1] at e1
      cases e1
      rw [w1] at e3
      cases e3
      rfl
    cases z2 with
    | ow z3 z4 z5 =>
      refine ⟨fin _ ⟨D.now.same, by rw [List.length_set]; exact C.now.len, fun m s hs => ?_, fun m m' c b1 b2 o1 o2 h1 h2 h3 h4 => ?_, fun m o1 hm => ?_⟩ so, res _ so fun c hc => ?_⟩
      · rcases set_at hs with ⟨rfl, rfl⟩ | ⟨hm, hs⟩
        · exact ⟨_, w2, .ow z3 z4 z5⟩
        · obtain ⟨y, q1, q2⟩ := C.now.sl m s hs
          refine ⟨y, q1, ?_⟩
          cases q2 with
          | un => exact .un
          | v q => exact .v (q.mono D.ext.s0)
          | @ow c' b' o1 u' q3 q4 q5 =>
            obtain ⟨r1, r2⟩ := keep (fun z => hm (C.now.inj m i c' b' b o1 o q1 (by rw [onlyA _ z]; exact w2) hs hi)) q3 q4
            exact .ow r1 r2 (q5.mono D.ext.s0)
      · rcases set_at h3 with ⟨e1, e3⟩ | ⟨hm, k3⟩
        · rcases set_at h4 with ⟨e2, _⟩ | ⟨hm', k4⟩
          · exact e1.trans e2.symm
          · rw [e1] at h1 ⊢
            exact C.now.inj i m' c b b2 o o2 h1 h2 hi k4
        · rcases set_at h4 with ⟨e2, _⟩ | ⟨hm', k4⟩
          · rw [e2] at h2 ⊢
            exact C.now.inj m i c b1 b o1 o h1 h2 k3 hi
          · exact C.now.inj m m' c b1 b2 o1 o2 h1 h2 k3 k4
      · rcases set_at hm with ⟨rfl, q⟩ | ⟨_, hm⟩
        · cases q
          exact C.now.tr m o hi
        · exact C.now.tr m o1 hm
      · rw [onlyA c hc]
        exact ⟨j, o', k1, hj⟩
  · -- nothing is handed in
    have none_ : ∀ a, ¬ BArg xs sls a := fun a hb => by
      obtain ⟨j, i, c, o, o', e1, e2, e3, e4, e5, e6⟩ := isOwn a hb
      obtain ⟨d, q⟩ := hn i j (by
        unfold slotOf
        rw [e1]
        show (match as[j]? with
          | some (Ar.ow i) => some (i, j)
          | _ => none) = some (i, j)
        rw [e2])
      rw [e5] at q
      cases q
    refine ⟨fin env2 ⟨D.now.same, C.now.len, fun m s hs => ?_, C.now.inj, C.now.tr⟩ fun _ z => z, res env2 (fun _ z => z) fun c hc => absurd hc (none_ c)⟩
    obtain ⟨y, q1, q2⟩ := C.now.sl m s hs
    refine ⟨y, q1, ?_⟩
    cases q2 with
    | un => exact .un
    | v q => exact .v (q.mono D.ext.s0)
    | ow q3 q4 q5 =>
      obtain ⟨r1, r2⟩ := keep (none_ _) q3 q4
      exact .ow r1 r2 (q5.mono D.ext.s0)
end
end Ev

set_option Elab.async false
set_option linter.all false
set_option maxRecDepth 100000
set_option maxHeartbeats 1000000
/-! Calls of the defs: the step in the model. -/
namespace Ev
open PySem PySem.Spec L2
open PyProof.Rows hiding St
section
variable {G : Adr} {nm : Nm} {tb : Tab} {cf : CF} {k : Nat} {S : SC} {X : Cx} {T : Nat → Addr → Prop} {W : WX} {F0 H0 F H : Hp} {B : Addr → Prop} {σ : St} {env : Env}
/-- a def's promise, with this state's wish about exceptions -/
abbrev spW (sp : Sp) (W : WX) (σ : St) (vs : List V) (H : Hp) (Q : VK) : Prop := sp vs H Q fun cls d H' => W cls d σ H'
theorem HRs.length {Z : Addr → Prop} : ∀ {rs : List R} {xs : List V}, HRs G Z F σ H env rs xs → xs.length = rs.length
  | _, _, .nil => rfl
  | _, _, .cons _ _ t => congrArg (· + 1) t.length
theorem go_call {f : Nat} {d : Def} {rs : List R} {xs : List V} {Q : VK} (C : Cond G T F0 H0 B F σ H env) (h : HRs G (Fz H0 B) F σ H env rs xs) (hd : tb.fns f = some d) (go : Go G T W (rR G) F0 H0 B σ (callM tb cf f rs env) Q) : spW (spF G cf f d.np) W σ xs H Q := by
  unfold callM at go
  rw [hd] at go
  have go : Go G T W (rR G) F0 H0 B σ ((if rs.length = d.np then bnd (argsR d.bor 0 rs) fun as env => match slsOf env as with
    | none => none
    | some sls => (match cf f sls with
      | none => none
      | some c => backCall (slotOf d.bor as) c env) else stuck) env) Q := go
  split at go
  · rename_i hl
    obtain ⟨as, env1, e1, go⟩ := go_bnd go fun x e => argsR_noex x e
    obtain ⟨F1, C1, sf, ar⟩ := args_ok C h e1
    cases e2 : slsOf env1 as with
    | none => rw [e2] at go; exact go.elim
    | some sls =>
      rw [e2] at go
      have go : Go G T W (rR G) F0 H0 B σ (match cf f sls with
        | none => none
        | some c => backCall (slotOf d.bor as) c env1) Q := go
      cases e3 : cf f sls with
      | none => rw [e3] at go; exact go.elim
      | some c =>
        rw [e3] at go
        have go : Go G T W (rR G) F0 H0 B σ (backCall (slotOf d.bor as) c env1) Q := go
        refine ⟨by rw [h.length, hl], F1, sls, c, args_in C1.now ar e2, e3, ?_⟩
        unfold backCall at go
        cases c with
        | ret r e =>
          intro v σ' F' H' D pr
          cases e4 : slotOf d.bor as with
          | none =>
            rw [e4] at go
            obtain ⟨q1, q2⟩ := after_call C1 ar e2 D (env2 := env1) (.inr ⟨fun i j z => (by rw [e4] at z; cases z), rfl⟩)
            exact go F' H' v q1 (q2 pr)
          | some ij =>
            obtain ⟨i, j⟩ := ij
            rw [e4] at go
            simp only at go
            cases e5 : env1[i]? with
            | none => rw [e5] at go; exact go.elim
            | some s =>
              rw [e5] at go
              cases s with
              | un => exact go.elim
              | v d' =>
                obtain ⟨q1, q2⟩ := after_call C1 ar e2 D (env2 := env1) (.inr ⟨fun i' j' z => (by rw [e4] at z; cases z; exact ⟨_, e5⟩), rfl⟩)
                exact go F' H' v q1 (q2 pr)
              | ow b o =>
                simp only at go
                cases e6 : e[j]? with
                | none => rw [e6] at go; exact go.elim
                | some s' =>
                  rw [e6] at go
                  cases s' with
                  | un => exact go.elim
                  | v d' => exact go.elim
                  | ow b' o' =>
                    cases b' with
                    | false => exact go.elim
                    | true =>
                      obtain ⟨q1, q2⟩ := after_call C1 ar e2 D (env2 := env1.set i (.ow b o')) (.inl ⟨i, j, b, o, o', e4, e5, e6, rfl⟩)
                      exact go F' H' v q1 (q2 pr)
        | ex x e =>
          intro cls d' σ' F' H' D xr
          cases e4 : slotOf d.bor as with
          | none =>
            rw [e4] at go
            obtain ⟨q1, q2⟩ := after_call C1 ar e2 D (env2 := env1) (.inr ⟨fun i j z => (by rw [e4] at z; cases z), rfl⟩)
            exact go F' H' _ _ q1 xr
          | some ij =>
            obtain ⟨i, j⟩ := ij
            rw [e4] at go
            simp only at go
            cases e5 : env1[i]? with
            | none => rw [e5] at go; exact go.elim
            | some s =>
              rw [e5] at go
              cases s with
              | un => exact go.elim
              | v d' =>
                obtain ⟨q1, q2⟩ := after_call C1 ar e2 D (env2 := env1) (.inr ⟨fun i' j' z => (by rw [e4] at z; cases z; exact ⟨_, e5⟩), rfl⟩)
                exact go F' H' _ _ q1 xr
              | ow b o =>
                simp only at go
                cases e6 : e[j]? with
                | none => rw [e6] at go; exact go.elim
                | some s' =>
                  rw [e6] at go
                  cases s' with
                  | un => exact go.elim
                  | v d' => exact go.elim
                  | ow b' o' =>
                    cases b' with
                    | false => exact go.elim
                    | true =>
                      obtain ⟨q1, q2⟩ := after_call C1 ar e2 D (env2 := env1.set i (.ow b o')) (.inl ⟨i, j, b, o, o', e4, e5, e6, rfl⟩)
                      exact go F' H' _ _ q1 xr
  · exact go.elim

/-! ### the model's steps -/
theorem run_fnG {f : Addr} {fd : FuncData} {ps : List Str} {sp : Sp} {pins : List (Addr × Obj)} {s : Shared} {Q : VK} {us : List Value} {vs : List V} (F : FnG X.prog X.w X.K X.mg X.base k f fd ps sp) (hr : Room k X.A) (hg : X.A.guards = some []) (hb : Binds X.K fd ps []) (tk : Takes X W)
    (I : Inv X pins σ H s) (r : Vals vs us) (h : spW sp W σ vs H Q) : wpAny (model X.prog X.w) X.A (call (.ref f) us) (EP X pins σ Q) X.xe s := by
  have hl : (us ++ []).length = ps.length := by rw [List.append_nil, ← r.length]; exact F.len _ _ _ _ h
  have bt := hb s us I.kIn hl
  rw [List.append_nil] at bt
  refine wpAny_call (codeAny_mono (F.run X.A X.stack s H ⟨us, []⟩ us vs Q _ hr hg I.env0 bt r h) fun r s' hq => ?_)
  cases r with
  | error e => exact tk e s' (XE.of_call I (fun cls d H' w => w) hq)
  | ok fl =>
    cases fl with
    | ret u => exact I.after hq
    | next => exact False.elim hq
    | brk => exact False.elim hq
    | cont => exact False.elim hq
/-- the call of a value that is known -/
theorem callG {f : Addr} {fd : FuncData} {ps : List Str} {sp : Sp} {xs : List Expr} {pos : Pos} {ta : TA} {pins : List (Addr × Obj)} {s : Shared} {Q : VK} (F : FnG X.prog X.w X.K X.mg X.base k f fd ps sp) (hr : Room k X.A) (hg : X.A.guards = some []) (hb : Binds X.K fd ps []) (tk : Takes X W)
    (hk : PySem.W.keepIn X.K (.ref f) = true) (ha : PA X xs ta) (hst : ∀ x ∈ xs, noStar x = true) (I : Inv X pins σ H s) (h : ta σ H (spW sp W σ · · Q)) :
    wpAny (model X.prog X.w) X.A (callWith pos (.ref f) [] (backTo pos (starEach xs X.env)) []) (EP X pins σ Q) X.xe s := by
  cases xs with
  | nil =>
    have h0 := ha.run pos pins s σ H _ I h
    have h1 : wpAny (model X.prog X.w) X.A (pure ([] : List Value)) (AP X pins σ (spW sp W σ · · Q)) X.xe s := h0
    intro Γ p hΓ
    have h2 : AP X pins σ (spW sp W σ · · Q) [] s := h1 Γ p hΓ
    obtain ⟨vs, H1, I1, r, q⟩ := h2
    exact PySem.W.callWith_K0 I.kIn hk (run_fnG F hr hg hb tk I1 r q) Γ p hΓ
  | cons e es =>
    refine PySem.W.callWith_K (h₀ := X.base) I.ok.mod.kin hk (thn (ha.run pos pins s σ H _ I h) fun us s1 ⟨vs, H1, I1, r, q⟩ => ⟨I1.kIn, ?_⟩) (star_cons (hst e List.mem_cons_self)) (any_star fun x hx => hst x (List.mem_cons_of_mem _ hx))
    exact run_fnG F hr hg hb tk I1 r q
theorem pe_callG {f : Addr} {fd : FuncData} {ps : List Str} {sp : Sp} {x : Str} {xs : List Expr} {p pos : Pos} {ta : TA} (F : FnG X.prog X.w X.K X.mg X.base k f fd ps sp) (hr : Room k X.A) (hgd : X.A.guards = some []) (hb : Binds X.K fd ps []) (tk : Takes X W)
    (hg : Gl X x) (hm : X.mg x = some (.ref f)) (hk : PySem.W.keepIn X.K (.ref f) = true) (ha : PA X xs ta) (hst : ∀ x ∈ xs, noStar x = true) (hdb : (x == ("__debug__" : Str)) = false) :
    PE X (.Call (.Name x p) xs [] pos) (fun σ H Q => ta σ H (spW sp W σ · · Q)) := by
  refine ⟨fun pins s σ H Q I h => ?_⟩
  exact wpAny_Call_Name_kw (ld_glob I hg hm (callG F hr hgd hb tk hk ha hst I h) hdb)
theorem pe_callvG {sp : Addr → Sp} {u : Expr} {xs : List Expr} {pos : Pos} {tu : TE} {ta : TA} (hu : PE X u tu) (tk : Takes X W) (hr : Room k X.A) (hgd : X.A.guards = some []) (ha : PA X xs ta) (hst : ∀ x ∈ xs, noStar x = true)
    (hat : ∀ a b c, u ≠ .Attribute a b c) :
    PE X (.Call u xs [] pos) (fun σ H Q => tu σ H fun v H1 => ∃ f fd ps sp, v = .ref f ∧ FnG X.prog X.w X.K X.mg X.base k f fd ps sp ∧ Binds X.K fd ps [] ∧ PySem.W.keepIn X.K (.ref f) = true ∧ ta σ H1 (spW sp W σ · · Q)) := by
  refine ⟨fun pins s σ H Q I h => ?_⟩
  refine Call_ (thn (hu.run pins s σ H _ I h) fun v s1 ⟨x, H1, I1, r1, f, fd, ps, sp, e, F, hb, hk, q⟩ => ?_) ?_
  · subst e
    cases r1
    exact callG F hr hgd hb tk hk ha hst I1 q
  · cases u <;> first
      | rfl
      | exact absurd rfl (hat _ _ _)
end
end Ev

set_option Elab.async false
set_option linter.all false
set_option maxRecDepth 100000
set_option maxHeartbeats 1000000
/-! The expressions' steps. -/
namespace Ev
open PySem PySem.Spec L2
open PyProof.Rows hiding St
section
variable {G : Adr} {nm : Nm} {tb : Tab} {cf : CF} {k : Nat} {S : SC} {X : Cx} {T : Nat → Addr → Prop} {W : WX} {F0 H0 F H : Hp} {B : Addr → Prop} {σ : St} {env : Env}
theorem bnd_assoc {α β γ : Type} (m : M α) (f : α → M β) (g : β → M γ) : bnd (bnd m f) g = bnd m fun a => bnd (f a) g := by
  funext env
  unfold bnd
  cases m env with
  | none => rfl
  | some o => cases o <;> rfl
/-! ### names, constants -/
theorem go_some {α γ : Type} {R : Rl α γ} {a : α} {g : γ} {Q : γ → Hp → Prop} (C : Cond G T F0 H0 B F σ H env) (r : R (Fz H0 B) F σ H env a g) (h : Go G T W R F0 H0 B σ (some (.ok a env)) Q) : Q g H := h F H g C r
theorem e_const {e : Expr} {v : V} {d : D} (h : PE X e (tC v)) (r : ∀ F, Rep G F v d) : PE X e (tR G T W (ret (.v d))) :=
  pe_mono h fun σ H Q ⟨F0, H0, B, F, env, C, go⟩ => go_ret (R := rR G) C (.v (r F)) go
theorem e_var (g : Good G nm tb cf k S X) {i : Nat} {x : Str} {p : Pos} (hN : S.N[i]? = some x) (hv : visB S x = true) (hp : plainB x = true) : PE X (.Name x p) (tR G T W fun env => match env[i]? with
    | some (.v d) => some (.ok (.v d) env)
    | some (.ow _ _) => some (.ok (.ow i) env)
    | _ => none) := by
  refine pe_mono (pe_var (i := i) (by rw [g.hN]; exact hN) (g.vis hv) (plain_db hp).1 (plain_db hp).2) fun σ H Q ⟨F0, H0, B, F, env, C, go⟩ => ?_
  cases e : env[i]? with
  | none => simp only [e] at go; exact go.elim
  | some s =>
    simp only [e] at go
    obtain ⟨y, h1, h2⟩ := C.now.sl i s e
    cases h2 with
    | un => exact go.elim
    | @v x d r => exact ⟨x, h1, go F H x C (.v r)⟩
    | @ow a b o h k1 k2 k3 => exact ⟨.ref a, h1, go F H (.ref a) C (.ow h1)⟩

/-! ### one part, two parts -/
theorem e_one {e : Expr} {f : D → Option PR} {ma : M R} (h : PE X e (tUn (P1 G f) (tR G T W ma))) : PE X e (tR G T W (bnd ma fun x => oneP f x)) := by
  refine pe_mono h fun σ H Q ⟨F0, H0, B, F, env, C, go⟩ => ?_
  exact tM_mono (step0 C go) fun x H1 ⟨F1, env1, a, C1, h1, go1⟩ => go_one C1 h1 go1
theorem e_two {e : Expr} {f : D → D → Option PR} {ma mb : M R} (h : PE X e (tOp (P2 G f) (tR G T W ma) (tR G T W mb))) : PE X e (tR G T W (bnd ma fun x => bnd mb fun y => twoP f x y)) := by
  refine pe_mono h fun σ H Q ⟨F0, H0, B, F, env, C, go⟩ => ?_
  refine tM_mono (step0 C go) fun x H1 ⟨F1, env1, a, C1, h1, go1⟩ => ?_
  exact tM_mono (step (HR.stable _ _ _) C1 h1 go1) fun y H2 ⟨F2, env2, b, C2, h1', h2, go2⟩ => go_two C2 h1' h2 go2
/-- a bool of two parts, and on -/
theorem go_twoB {β δ : Type} {R' : Rl β δ} {f : D → D → Option Bool} {g : R → M β} {Z Z' : Addr → Prop} {r r' : R} {x y : V} {Q : δ → Hp → Prop} (C : Cond G T F0 H0 B F σ H env) (h : HR G Z F σ H env r x) (h' : HR G Z' F σ H env r' y) (go : Go G T W R' F0 H0 B σ (bnd (twoP (fun c d => vP .bl (f c d)) r r') g env) Q) :
    P2 G (fun c d => vP .bl (f c d)) x y H (fun v H1 => ∃ k F1 env1, v = .bl k ∧ Cond G T F0 H0 B F1 σ H1 env1 ∧ (∀ {Z : Addr → Prop} {r : R} {x : V}, HR G Z F σ H env r x → HR G Z F1 σ H1 env1 r x) ∧ Go G T W R' F0 H0 B σ (g (.v (.bl k)) env1) Q) := by
  unfold bnd twoP at go
  cases e : cont env r with
  | none => rw [e] at go; exact go.elim
  | some c =>
    cases e' : cont env r' with
    | none => rw [e, e'] at go; exact go.elim
    | some d =>
      rw [e, e'] at go
      cases e2 : f c d with
      | none =>
        have e3 : (fun c d => vP D.bl (f c d)) c d = none := by show vP D.bl (f c d) = none; rw [e2]; rfl
        simp only at e3
        simp only [e3] at go
        exact go.elim
      | some kk =>
        have e3 : vP D.bl (f c d) = some (.v (.bl kk)) := by rw [e2]; rfl
        simp only [e3] at go
        refine ⟨F, c, d, _, C.now.same, h.cont C.now e, h'.cont C.now e', e3, fun v F' H' p => ?_⟩
        have p0 := p.res
        obtain ⟨c1, c2⟩ := p.cond C.now.self
        cases p0
        exact ⟨kk, F', env, rfl, C.trans c1, fun q => HR.stable _ _ _ _ _ _ _ _ _ _ q C.now c1, go⟩
/-- a test of a value -/
theorem go_tst {Z : Addr → Prop} {a : R} {x : V} {Q : Bool → Hp → Prop} (hK : X.K = G.K) (C : Cond G T F0 H0 B F σ H env) (h : HR G Z F σ H env a x) (go : Go G T W rB F0 H0 B σ (match (cont env a).bind truthD with
    | some k => some (.ok k env)
    | none => none) Q) : ∃ k, TruV X.K x H k ∧ Q k H := by
  cases e : cont env a with
  | none => rw [e] at go; exact go.elim
  | some d =>
    rw [e] at go
    have go : Go G T W rB F0 H0 B σ (match truthD d with
      | some k => some (.ok k env)
      | none => none) Q := go
    cases e2 : truthD d with
    | none => rw [e2] at go; exact go.elim
    | some k =>
      rw [e2] at go
      exact ⟨k, tru_all hK C.now.same (h.cont C.now e) e2, go F H k C rfl⟩
theorem t_both {e : Expr} {m : M R} (hK : X.K = G.K) (h : PE X e (tR G T W m)) (he : ∀ whole, isTrue e X.env whole = (do let v ← whole; standAt e.pos; holding [v] (truthy v))) : PT X e (tT G T W (tst m)) := by
  refine pt_mono (pt_truth h he) fun σ H Q ⟨F0, H0, B, F, env, C, go⟩ => ?_
  exact tM_mono (step0 C go) fun x H1 ⟨F1, env1, a, C1, h1, go1⟩ => go_tst hK C1 h1 go1
theorem t_bl {k : Bool} {Q : Bool → Hp → Prop} (C : Cond G T F0 H0 B F σ H env) (go : Go G T W rB F0 H0 B σ (match (cont env (.v (.bl k))).bind truthD with
    | some k => some (.ok k env)
    | none => none) Q) : Q k H := go F H k C rfl
theorem go_isBl {β δ : Type} {R' : Rl β δ} {a : R} {x : V} {Z : Addr → Prop} {f : Bool → M β} {Q : δ → Hp → Prop} (C : Cond G T F0 H0 B F σ H env) (h : HR G Z F σ H env a x) (go : Go G T W R' F0 H0 B σ (bnd (isBl a) f env) Q) : ∃ k, x = .bl k ∧ Go G T W R' F0 H0 B σ (f k env) Q := by
  unfold bnd isBl at go
  cases e : cont env a with
  | none => rw [e] at go; exact go.elim
  | some d =>
    rw [e] at go
    cases d <;> first
      | exact go.elim
      | skip
    rename_i b
    exact ⟨b, (h.cont C.now e).bl, go⟩
theorem isBl_bl {β : Type} {k : Bool} {f : Bool → M β} : bnd (isBl (.v (.bl k))) f env = f k env := rfl
theorem go_fnOf {β δ : Type} {R' : Rl β δ} {a : R} {x : V} {Z : Addr → Prop} {f : Nat → M β} {Q : δ → Hp → Prop} (C : Cond G T F0 H0 B F σ H env) (h : HR G Z F σ H env a x) (go : Go G T W R' F0 H0 B σ (bnd (fnOf tb a) f env) Q) : ∃ n d, tb.fns n = some d ∧ x = .ref (G.fn n) ∧ Go G T W R' F0 H0 B σ (f n env) Q := by
  unfold bnd fnOf at go
  cases e : cont env a with
  | none => rw [e] at go; exact go.elim
  | some d =>
    rw [e] at go
    cases d <;> first
      | exact go.elim
      | skip
    rename_i n
    cases e2 : tb.fns n with
    | none => simp only [e2] at go; exact go.elim
    | some d =>
      simp only [e2] at go
      exact ⟨n, d, e2, (h.cont C.now e).fn, go⟩
theorem go_intR {β δ : Type} {R' : Rl β δ} {a : R} {x : V} {Z : Addr → Prop} {f : Int → M β} {Q : δ → Hp → Prop} (C : Cond G T F0 H0 B F σ H env) (h : HR G Z F σ H env a x) (go : Go G T W R' F0 H0 B σ (bnd (intR a) f env) Q) : ∃ i, x = .int i ∧ Go G T W R' F0 H0 B σ (f i env) Q := by
  unfold bnd intR at go
  cases e : cont env a with
  | none => rw [e] at go; exact go.elim
  | some d =>
    rw [e] at go
    cases d with
    | int i => exact ⟨i, (h.cont C.now e).int, go⟩
    | _ => exact go.elim

/-! ### not, and, or, if -/
section
variable {a b c : Expr} {ma mb mc : M R} {na nb nc : M Bool} {pos : Pos}
theorem e_not (hK : X.K = G.K) (ha : PE X a (tR G T W ma)) : PE X (.UnaryOp .Not a pos) (tR G T W (bnd ma fun x => oneP (fun d => vP (fun k => .bl (!k)) (truthD d)) x)) := by
  refine pe_mono (pe_notT ha) fun σ H Q ⟨F0, H0, B, F, env, C, go⟩ => ?_
  refine tM_mono (step0 C go) fun x H1 ⟨F1, env1, a, C1, h1, go1⟩ => ?_
  unfold oneP at go1
  cases e : cont env1 a with
  | none => rw [e] at go1; exact go1.elim
  | some d =>
    rw [e] at go1
    cases e2 : truthD d with
    | none =>
      have e3 : (fun d => vP (fun k => D.bl (!k)) (truthD d)) d = none := by show vP (fun k => D.bl (!k)) (truthD d) = none; rw [e2]; rfl
      simp only at e3
      simp only [Option.bind_some, e3] at go1
      exact go1.elim
    | some k =>
      have e3 : vP (fun k => D.bl (!k)) (truthD d) = some (.v (.bl (!k))) := by rw [e2]; rfl
      simp only [Option.bind_some, e3] at go1
      exact ⟨k, tru_all hK C1.now.same (h1.cont C1.now e) e2, go1 F1 H1 (.bl (!k)) C1 (.v (.bl (!k)))⟩
theorem t_not (ha : PT X a (tT G T W na)) : PT X (.UnaryOp .Not a pos) (tT G T W (bnd na fun b => ret (!b))) := by
  refine pt_mono (pt_not ha) fun σ H Q ⟨F0, H0, B, F, env, C, go⟩ => ?_
  exact tM_mono (step0 C go) fun c H1 ⟨F1, env1, a, C1, h1, go1⟩ => go_ret (R := rB) C1 (show (!a) = !c by rw [show a = c from h1]) go1
/-- what stands behind the first operand of a chain of and, or -/
theorem e_and {r : List Expr} (ha : PE X a (tR G T W ma)) (hb : PE X (.BoolOp .And (b :: r) pos) (tR G T W mb)) : PE X (.BoolOp .And (a :: b :: r) pos) (tR G T W (bnd ma fun x => bnd (isBl x) fun k => if k then mb else ret (.v (.bl false)))) := by
  refine pe_mono (pe_and ha hb) fun σ H Q ⟨F0, H0, B, F, env, C, go⟩ => ?_
  refine tM_mono (step0 C go) fun x H1 ⟨F1, env1, a, C1, h1, go1⟩ => ?_
  obtain ⟨k, e, go2⟩ := go_isBl C1 h1 go1
  refine ⟨k, e, ?_⟩
  cases k with
  | true => exact ⟨F0, H0, B, F1, env1, C1, go2⟩
  | false => exact go_ret (R := rR G) C1 (.v (.bl false)) go2
theorem e_or {r : List Expr} (ha : PE X a (tR G T W ma)) (hb : PE X (.BoolOp .Or (b :: r) pos) (tR G T W mb)) : PE X (.BoolOp .Or (a :: b :: r) pos) (tR G T W (bnd ma fun x => bnd (isBl x) fun k => if k then ret (.v (.bl true)) else mb)) := by
  refine pe_mono (pe_or ha hb) fun σ H Q ⟨F0, H0, B, F, env, C, go⟩ => ?_
  refine tM_mono (step0 C go) fun x H1 ⟨F1, env1, a, C1, h1, go1⟩ => ?_
  obtain ⟨k, e, go2⟩ := go_isBl C1 h1 go1
  refine ⟨k, e, ?_⟩
  cases k with
  | false => exact ⟨F0, H0, B, F1, env1, C1, go2⟩
  | true => exact go_ret (R := rR G) C1 (.v (.bl true)) go2
theorem t_and {r : List Expr} (ha : PT X a (tT G T W na)) (hb : PW X (.BoolOp .And (b :: r) pos) (tT G T W nb)) : PW X (.BoolOp .And (a :: b :: r) pos) (tT G T W (bnd na fun c => if c then nb else ret false)) := by
  refine pw_mono (pw_and ha hb) fun σ H Q ⟨F0, H0, B, F, env, C, go⟩ => ?_
  refine tM_mono (step0 C go) fun c H1 ⟨F1, env1, a, C1, h1, go1⟩ => ?_
  have h1 : a = c := h1
  subst h1
  cases a with
  | true => exact ⟨F0, H0, B, F1, env1, C1, go1⟩
  | false => exact go_ret (R := rB) C1 rfl go1
theorem t_or {r : List Expr} (ha : PT X a (tT G T W na)) (hb : PW X (.BoolOp .Or (b :: r) pos) (tT G T W nb)) : PW X (.BoolOp .Or (a :: b :: r) pos) (tT G T W (bnd na fun c => if c then ret true else nb)) := by
  refine pw_mono (pw_or ha hb) fun σ H Q ⟨F0, H0, B, F, env, C, go⟩ => ?_
  refine tM_mono (step0 C go) fun c H1 ⟨F1, env1, a, C1, h1, go1⟩ => ?_
  have h1 : a = c := h1
  subst h1
  cases a with
  | false => exact ⟨F0, H0, B, F1, env1, C1, go1⟩
  | true => exact go_ret (R := rB) C1 rfl go1
theorem pw_of {op : BoolOp} {es : List Expr} {t : TT} (h : PT X (.BoolOp op es pos) t) : PW X (.BoolOp op es pos) t := ⟨fun wh pins s σ H Q I hw => h.run pins s σ H Q I hw⟩
theorem e_ite (hc : PT X c (tT G T W nc)) (ha : PE X a (tR G T W ma)) (hb : PE X b (tR G T W mb)) : PE X (.IfExp c a b pos) (tR G T W (bnd nc fun c => if c then ma else mb)) := by
  refine pe_mono (pe_ifExp hc ha hb) fun σ H Q ⟨F0, H0, B, F, env, C, go⟩ => ?_
  refine tM_mono (step0 C go) fun c H1 ⟨F1, env1, a, C1, h1, go1⟩ => ?_
  have h1 : a = c := h1
  subst h1
  cases a with
  | false => exact ⟨F0, H0, B, F1, env1, C1, go1⟩
  | true => exact ⟨F0, H0, B, F1, env1, C1, go1⟩
theorem t_ite (hc : PT X c (tT G T W nc)) (ha : PT X a (tT G T W na)) (hb : PT X b (tT G T W nb)) : PT X (.IfExp c a b pos) (tT G T W (bnd nc fun c => if c then na else nb)) := by
  have h : PT X (.IfExp c a b pos) (fun σ H Q => tT G T W nc σ H fun d H1 => if d = true then tT G T W na σ H1 Q else tT G T W nb σ H1 Q) := ⟨fun pins s σ H Q I h => by
    show wpAny _ _ (isTrue c X.env (eval c X.env) >>= fun d => if d = true then isTrue a X.env (eval a X.env) else isTrue b X.env (eval b X.env)) _ _ _
    refine wpAny_bind (thn (hc.run pins s σ H _ I h) fun d s1 ⟨H1, I1, q1⟩ => ?_)
    cases d with
    | true => exact ha.run pins s1 σ H1 Q I1 q1
    | false => exact hb.run pins s1 σ H1 Q I1 q1⟩
  refine pt_mono h fun σ H Q ⟨F0, H0, B, F, env, C, go⟩ => ?_
  refine tM_mono (step0 C go) fun c H1 ⟨F1, env1, a, C1, h1, go1⟩ => ?_
  have h1 : a = c := h1
  subst h1
  cases a with
  | false => exact ⟨F0, H0, B, F1, env1, C1, go1⟩
  | true => exact ⟨F0, H0, B, F1, env1, C1, go1⟩
/-! ### comparisons -/
theorem mark_of {nm : Nm} {e : E} {S : SC} {b : Expr} (h : chkE nm e S b = true) (op : CmpOp) : behindInMarks op b = false := by
  unfold behindInMarks
  cases b <;> first
    | exact absurd h (fun q => chk_set q)
    | (cases op <;> rfl)
    | (cases op <;> (cases e <;> simp [chkE] at h))
end
end
end Ev

set_option Elab.async false
set_option linter.all false
set_option maxRecDepth 100000
set_option maxHeartbeats 1000000
/-! The expressions' steps: lists of them, subscripts, calls. -/
namespace Ev
open PySem PySem.Spec L2
open PyProof.Rows hiding St
section
variable {G : Adr} {nm : Nm} {tb : Tab} {cf : CF} {k : Nat} {S : SC} {X : Cx} {T : Nat → Addr → Prop} {W : WX} {F0 H0 F H : Hp} {B : Addr → Prop} {σ : St} {env : Env}
theorem l_nil : PA X [] (tL G T W (ret [])) := pa_mono pa_nil fun σ H Q ⟨F0, H0, B, F, env, C, go⟩ => go_ret (R := rL G) C .nil go
theorem l_cons {e : Expr} {es : List Expr} {ma : M R} {ml : M (List R)} (hs : noStar e = true) (ha : PE X e (tR G T W ma)) (hl : PA X es (tL G T W ml)) : PA X (e :: es) (tL G T W (bnd ma fun x => bnd ml fun xs => ret (x :: xs))) := by
  refine pa_mono (pa_cons ha hl (star_cons hs)) fun σ H Q ⟨F0, H0, B, F, env, C, go⟩ => ?_
  refine tM_mono (step0 C go) fun x H1 ⟨F1, env1, a, C1, h1, go1⟩ => ?_
  refine tM_mono (step (HR.stable _ _ _) C1 h1 go1) fun xs H2 ⟨F2, env2, as, C2, h1', h2, go2⟩ => ?_
  have ap := aparts_of h1 h2
  exact go_ret (R := rL G) C2 (.cons (h1'.mono fun a => C.fz) ap (h2.mono fun a => C1.fz)) go2
theorem frzL_noex : ∀ {rs : List R} {env : Env} x e, frzL rs env ≠ some (.ex x e)
  | [], _, _, _, h => by cases h
  | r :: rs, env, x, e, h => by
    rcases bnd_some (show bnd (frz r) (fun d => bnd (frzL rs) fun ds => ret (d :: ds)) env = some (.ex x e) from h) with ⟨x', e', q, _⟩ | ⟨a, e', _, q⟩
    · exact frz_noex _ _ _ _ q
    · rcases bnd_some q with ⟨x', e2, q2, _⟩ | ⟨as, e2, _, q2⟩
      · exact frzL_noex _ _ q2
      · cases q2
theorem frzL_ok : ∀ {rs : List R} {xs : List V} {F : Hp} {env env' : Env} {ds : List D}, Cond G T F0 H0 B F σ H env → HRs G (Fz H0 B) F σ H env rs xs → frzL rs env = some (.ok ds env') → ∃ F', Cond G T F0 H0 B F' σ H env' ∧ Same F F' ∧ RepL G F' xs ds
  | [], _, F, env, env', ds, C, .nil, e => by cases e; exact ⟨F, C, Same.refl _, .nil⟩
  | r :: rs, _, F, env, env', ds, C, .cons (x := x) (xs := xs) h ap t, e => by
    rcases bnd_some (show bnd (frz r) (fun d => bnd (frzL rs) fun ds => ret (d :: ds)) env = some (.ok ds env') from e) with ⟨_, _, _, z⟩ | ⟨d, e1, q, e⟩
    · cases z
    · obtain ⟨F1, C1, h1, sf, l⟩ := frz_ok C h q
      have t1 := frz_oks (d := d) l t ap
      rcases bnd_some e with ⟨_, _, _, z⟩ | ⟨ds', e2, q1, q2⟩
      · cases z
      · cases q2
        obtain ⟨F2, C2, sf2, r2⟩ := frzL_ok C1 t1 q1
        exact ⟨F2, C2, sf.trans sf2, .cons (h1.mono sf2) r2⟩
/-! ### displays -/
theorem go_lftP {o : Option R} {Q : VK} (go : Go G T W (rR G) F0 H0 B σ (lft o env) Q) : ∃ r, o = some r ∧ Go G T W (rR G) F0 H0 B σ (some (.ok r env)) Q := by
  unfold lft at go
  cases o with
  | none => exact go.elim
  | some r => exact ⟨r, rfl, go⟩
section
variable {es : List Expr} {pos : Pos} {ml : M (List R)}
theorem e_tup {kk : Nat} (h : PA X es (tL G T W ml)) : PE X (.Tuple es kk pos) (tR G T W (bnd ml fun rs => bnd (frzL rs) fun ds => lft ((tupV ds).map PR.r))) := by
  refine pe_mono (pe_tup h) fun σ H Q ⟨F0, H0, B, F, env, C, go⟩ => ?_
  refine tM_mono (step0 C go) fun xs H1 ⟨F1, env1, rs, C1, h1, go1⟩ => ?_
  obtain ⟨ds, e2, q, go2⟩ := go_bnd go1 fun x e => frzL_noex x e
  obtain ⟨F2, C2, sf, rl⟩ := frzL_ok C1 (h1.mono fun a => C.fz) q
  obtain ⟨r, e3, go3⟩ := go_lftP go2
  unfold tupV at e3
  split at e3
  · rename_i hl
    cases e3
    refine ⟨by rw [rl.length]; exact hl, fun p hp => ?_⟩
    obtain ⟨c1, c2⟩ := (PPost.tup C2.now.same hp rl).cond C2
    exact go3 _ _ _ c1 c2
  · cases e3
theorem e_lst (h : PA X es (tL G T W ml)) : PE X (.List es pos) (tR G T W (bnd ml fun rs => bnd (frzL rs) fun ds => lft ((lstF ds).map PR.r))) := by
  refine pe_mono (pe_lst h) fun σ H Q ⟨F0, H0, B, F, env, C, go⟩ => ?_
  refine tM_mono (step0 C go) fun xs H1 ⟨F1, env1, rs, C1, h1, go1⟩ => ?_
  obtain ⟨ds, e2, q, go2⟩ := go_bnd go1 fun x e => frzL_noex x e
  obtain ⟨F2, C2, sf, rl⟩ := frzL_ok C1 (h1.mono fun a => C.fz) q
  obtain ⟨r, e3, go3⟩ := go_lftP go2
  unfold lstF at e3
  split at e3
  · rename_i hl
    cases e3
    refine ⟨by rw [rl.length]; exact hl, fun p hp => ?_⟩
    obtain ⟨c1, c2⟩ := (PPost.new C2.now.same hp (.lst rl)).cond C2
    exact go3 _ _ _ c1 c2
  · cases e3
end
/-! ### subscripts -/
theorem plainIx_of {nm : Nm} {e : E} {S : SC} {b : Expr} (h : chkE nm e S b = true) : PlainIx b := by
  cases b <;> first
    | exact (chk_slice h).elim
    | exact fun _ _ => rfl
section
variable {a b l h' : Expr} {pos p2 : Pos} {ma mb ml mh : M R}
theorem e_ix (g : Good G nm tb cf k S X) (ha : PE X a (tR G T W ma)) (hb : PE X b (tR G T W mb)) (hp : PlainIx b) : PE X (.Subscript a b pos) (tR G T W (bnd ma fun x => bnd mb fun y => twoP (fun c d => vP id (ixD c d)) x y)) :=
  e_two (pe_ix (ix_all g.hK g.hw g.hu) ha hb hp)
theorem go_sl {x : V} {a : R} {Z : Addr → Prop} {lo hi : Option Int} {Q : VK} (C : Cond G T F0 H0 B F σ H env) (h : HR G Z F σ H env a x) (g : Go G T W (rR G) F0 H0 B σ (oneP (slD lo hi) a env) Q) : PSl G x lo hi H Q := by
  obtain ⟨F, c, pr, z1, z2, z3, z4⟩ := go_one C h g
  exact ⟨F, c, pr, z1, z2, z3, z4⟩
theorem e_slN (g : Good G nm tb cf k S X) (ha : PE X a (tR G T W ma)) : PE X (.Subscript a (.Slice none none none p2) pos) (tR G T W (bnd ma fun x => oneP (slD none none) x)) := by
  refine pe_mono (pe_slice (sl_all g.hK) ha po_none po_none) fun σ H Q ⟨F0, H0, B, F, env, C, go⟩ => ?_
  exact tM_mono (step0 C go) fun x H1 ⟨F1, env1, a, C1, h1, go1⟩ => go_sl C1 h1 go1
theorem e_slL (g : Good G nm tb cf k S X) (ha : PE X a (tR G T W ma)) (hl : PE X l (tR G T W ml)) : PE X (.Subscript a (.Slice (some l) none none p2) pos) (tR G T W (bnd ma fun x => bnd ml fun y => bnd (intR y) fun i => oneP (slD (some i) none) x)) := by
  refine pe_mono (pe_slice (sl_all g.hK) ha (po_some hl) po_none) fun σ H Q ⟨F0, H0, B, F, env, C, go⟩ => ?_
  refine tM_mono (step0 C go) fun x H1 ⟨F1, env1, a, C1, h1, go1⟩ => ?_
  refine tM_mono (step (HR.stable _ _ _) C1 h1 go1) fun y H2 ⟨F2, env2, b, C2, h1', h2, go2⟩ => ?_
  obtain ⟨i, e, go3⟩ := go_intR C2 h2 go2
  exact ⟨i, e, go_sl C2 h1' go3⟩
theorem e_slH (g : Good G nm tb cf k S X) (ha : PE X a (tR G T W ma)) (hl : PE X l (tR G T W ml)) : PE X (.Subscript a (.Slice none (some l) none p2) pos) (tR G T W (bnd ma fun x => bnd ml fun y => bnd (intR y) fun i => oneP (slD none (some i)) x)) := by
  refine pe_mono (pe_slice (sl_all g.hK) ha po_none (po_some hl)) fun σ H Q ⟨F0, H0, B, F, env, C, go⟩ => ?_
  refine tM_mono (step0 C go) fun x H1 ⟨F1, env1, a, C1, h1, go1⟩ => ?_
  refine tM_mono (step (HR.stable _ _ _) C1 h1 go1) fun y H2 ⟨F2, env2, b, C2, h1', h2, go2⟩ => ?_
  obtain ⟨i, e, go3⟩ := go_intR C2 h2 go2
  exact ⟨i, e, go_sl C2 h1' go3⟩
theorem e_slB (g : Good G nm tb cf k S X) (ha : PE X a (tR G T W ma)) (hl : PE X l (tR G T W ml)) (hh : PE X h' (tR G T W mh)) : PE X (.Subscript a (.Slice (some l) (some h') none p2) pos) (tR G T W (bnd ma fun x => bnd ml fun y => bnd (intR y) fun i => bnd mh fun z => bnd (intR z) fun j => oneP (slD (some i) (some j)) x)) := by
  refine pe_mono (pe_slice (sl_all g.hK) ha (po_some hl) (po_some hh)) fun σ H Q ⟨F0, H0, B, F, env, C, go⟩ => ?_
  refine tM_mono (step0 C go) fun x H1 ⟨F1, env1, a, C1, h1, go1⟩ => ?_
  refine tM_mono (step (HR.stable _ _ _) C1 h1 go1) fun y H2 ⟨F2, env2, b, C2, h1', h2, go2⟩ => ?_
  obtain ⟨i, e, go3⟩ := go_intR C2 h2 go2
  refine ⟨i, e, tM_mono (step (HR.stable _ _ _) C2 h1' go3) fun z H3 ⟨F3, env3, b3, C3, h13, h3, go4⟩ => ?_⟩
  obtain ⟨j, e', go5⟩ := go_intR C3 h3 go4
  exact ⟨j, e', go_sl C3 h13 go5⟩
end
/-! ### built-in functions -/
theorem biN_plain (b : Bi) : (biN b : Str) ≠ "__name__" ∧ ((biN b : Str) == ("__debug__" : Str)) = false := by cases b <;> decide
theorem biN_mem (b : Bi) : biN b ∈ ["len", "abs", "int", "str", "repr", "tuple", "list", "sorted", "sum", "min", "max", "any", "all", "dict", "isinstance", "range", "zip", "enumerate", "set", "bool"] := by cases b <;> decide
theorem e_bi (g : Good G nm tb cf k S X) {b : Bi} {es : List Expr} {p pos : Pos} {ml : M (List R)} (hg : glB S (biN b : Str) = true) (h0 : es ≠ []) (hst : ∀ x ∈ es, noStar x = true) (ha : PA X es (tL G T W ml)) :
    PE X (.Call (.Name (biN b : Str) p) es [] pos) (tR G T W (bnd ml fun rs => allP (biD b) rs)) := by
  cases es with
  | nil => exact absurd rfl h0
  | cons e es =>
    have hok := bi_ok (X := X) g.hK g.calm g.hu g.gd b
    have fin : ∀ σ H Q, tR G T W (bnd ml fun rs => allP (biD b) rs) σ H Q → tCB (PL G (biD b)) (tL G T W ml) σ H Q := fun σ H Q ⟨F0, H0, B, F, env, C, go⟩ =>
      tM_mono (step0 C go) fun x H1 ⟨F1, env1, a, C1, h1, go1⟩ => go_all C1 h1 go1
    have hm := g.glo.blt _ (biN_mem b)
    have hb := bi_boot b
    have he := star_cons (env := X.env) (es := es) (hst e List.mem_cons_self)
    have hpl := any_star (env := X.env) (pos := pos) (xs := es) fun x hx => hst x (List.mem_cons_of_mem _ hx)
    unfold biV at hok hb
    split at hok
    · rename_i q
      rw [if_pos q] at hb
      exact pe_mono (pe_callTy hok (g.gl hg) hm hb ha (biN_plain b).1 (biN_plain b).2 he hpl) fin
    · rename_i q
      rw [if_neg q] at hb
      exact pe_mono (pe_callB hok (g.gl hg) hm hb ha (biN_plain b).1 (biN_plain b).2 he hpl) fin

/-! ### isinstance -/
theorem ty_of (t : Ty) : bootBuiltins (tyN t : Str) = some (.type (tyN t)) ∧ (tyN t : Str) ≠ "__name__" ∧ ((tyN t : Str) == ("__debug__" : Str)) = false := by cases t <;> exact ⟨by decide +kernel, by decide, by decide⟩
theorem tyN_mem (t : Ty) : tyN t ∈ ["len", "abs", "int", "str", "repr", "tuple", "list", "sorted", "sum", "min", "max", "any", "all", "dict", "isinstance", "range", "zip", "enumerate", "set", "bool"] := by cases t <;> decide
def tyD : D → Option String
  | .non => some "NoneType"
  | .int _ => some "int"
  | .bl _ => some "bool"
  | .str _ => some "str"
  | .tup _ => some "tuple"
  | .lst _ => some "list"
  | _ => none
theorem tyX_of {x : V} {d : D} {s : String} (hK : X.K = G.K) (sm : Same F H) (h : BRep G F H x d) (e : tyD d = some s) : TyX X.K H x (.type s) := by
  cases d with
  | non => cases e; rw [h.non]; exact .base .non
  | bl b => cases e; rw [h.bl]; exact .base (.bl b)
  | int b => cases e; rw [h.int]; exact .base (.int b)
  | str b => cases e; rw [h.str]; exact .base (.str b)
  | tup l =>
    cases e
    obtain ⟨a, xs, rfl, hT, _⟩ := h.tup sm
    rcases hT with (h | ⟨o, h⟩) | ⟨o, its, n, h1, h2, _⟩
    · exact .base (.tup h)
    · exact .fTuple h
    · exact .kTuple (by rw [hK]; exact h1) h2
  | lst l =>
    cases e
    obtain ⟨a, xs, rfl, hT, _⟩ := h.lst sm
    rcases hT with h | ⟨o, h⟩
    · exact .base (.lst h)
    · exact .base (.frz h)
  | _ => cases e
theorem isi_kit {d : D} {t : Ty} {b : Bool} (h : isiD t d = some b) : ∃ s, tyD d = some s ∧ ∀ K, PySem.W.kitOne K (.type s) (.type (tyN t)) = some b := by
  cases d <;> first
    | (cases h; done)
    | (refine ⟨_, rfl, fun K => ?_⟩; cases t <;> (cases h; exact kit_ty (by decide +kernel)))
theorem e_isi (g : Good G nm tb cf k S X) {t : Ty} {e : Expr} {p p2 pos : Pos} {ma : M R} (hg : glB S ("isinstance" : Str) = true) (hg2 : glB S (tyN t : Str) = true) (hs : noStar e = true) (ha : PE X e (tR G T W ma)) :
    PE X (.Call (.Name "isinstance" p) [e, .Name (tyN t : Str) p2] [] pos) (tR G T W (bnd ma fun x => oneP (fun d => vP .bl (isiD t d)) x)) := by
  have hT : PE X (.Name (tyN t : Str) p2) (tC (.ty (tyN t))) := pe_bltn (g.gl hg2) (g.glo.blt _ (tyN_mem t)) (ty_of t).1 rfl (ty_of t).2.1 (ty_of t).2.2
  have hA := pa_cons ha (pa_cons hT pa_nil (star_cons rfl)) (star_cons hs)
  refine pe_mono (pe_callB call_isi (g.gl hg) (g.glo.blt _ (by decide)) PyProof.Rows.boot_isinstance hA (by decide) (by decide) (star_cons hs) (any_star fun x hx => by
    rw [List.mem_singleton.mp hx]; rfl)) fun σ H Q ⟨F0, H0, B, F, env, C, go⟩ => ?_
  refine tM_mono (step0 C go) fun x H1 ⟨F1, env1, a, C1, h1, go1⟩ => ?_
  obtain ⟨F2, c, pr, z1, z2, z3, z4⟩ := go_one C1 h1 go1
  cases q : isiD t c with
  | none =>
    have z3 : vP D.bl (isiD t c) = some pr := z3
    rw [q] at z3; cases z3
  | some b =>
    have z3 : vP D.bl (isiD t c) = some pr := z3
    rw [q] at z3
    cases z3
    obtain ⟨s, hs, hk⟩ := isi_kit q
    exact ⟨x, .ty (tyN t), .type s, .type (tyN t), b, rfl, .ty _, tyX_of g.hK z1 z2 hs, hk _, z4 (.bl b) F2 H1 (.bl z1)⟩
end
end Ev

set_option Elab.async false
set_option linter.all false
set_option maxRecDepth 100000
set_option maxHeartbeats 1000000
/-! The expressions' steps: the defs' calls, methods, what is walked. -/
namespace Ev
open PySem PySem.Spec L2
open PyProof.Rows hiding St
section
variable {G : Adr} {nm : Nm} {tb : Tab} {cf : CF} {k : Nat} {S : SC} {X : Cx} {T : Nat → Addr → Prop} {W : WX} {F0 H0 F H : Hp} {B : Addr → Prop} {σ : St} {env : Env}
theorem e_call (g : Good G nm tb cf k S X) (tk : Takes X W) {f : Nat} {x : Str} {es : List Expr} {p pos : Pos} {ml : M (List R)} (hx : nm.fn[f]? = some x) (hg : glB S x = true) (hp : plainB x = true) (hst : ∀ x ∈ es, noStar x = true) (ha : PA X es (tL G T W ml)) :
    PE X (.Call (.Name x p) es [] pos) (tR G T W (bnd ml fun rs => callM tb cf f rs)) := by
  obtain ⟨d, fd, ps, h1, h2, h3⟩ := g.fns.ok f x hx
  obtain ⟨h4, h5⟩ := g.glo.fn f x hx
  rw [← g.hK] at h2 h3 h5
  refine pe_mono (pe_callG h2 g.room g.gd h3 tk (g.gl hg) h4 h5 ha hst (plain_db hp).1) fun σ H Q ⟨F0, H0, B, F, env, C, go⟩ => ?_
  exact tM_mono (step0 C go) fun xs H1 ⟨F1, env1, rs, C1, hr, go1⟩ => go_call C1 (hr.mono fun a => C.fz) h1 go1
theorem e_callv (g : Good G nm tb cf k S X) (tk : Takes X W) {u : Expr} {es : List Expr} {pos : Pos} {mu : M R} {ml : M (List R)} (hat : ∀ a b c, u ≠ .Attribute a b c) (hst : ∀ x ∈ es, noStar x = true) (hu : PE X u (tR G T W mu)) (ha : PA X es (tL G T W ml)) :
    PE X (.Call u es [] pos) (tR G T W (bnd mu fun x => bnd (fnOf tb x) fun f => bnd ml fun rs => callM tb cf f rs)) := by
  refine pe_mono (pe_callvG (sp := fun _ _ _ _ _ => False) hu tk g.room g.gd ha hst hat) fun σ H Q ⟨F0, H0, B, F, env, C, go⟩ => ?_
  refine tM_mono (step0 C go) fun v H1 ⟨F1, env1, a, C1, hv, go1⟩ => ?_
  obtain ⟨n, d, e1, e2, go2⟩ := go_fnOf C1 hv go1
  obtain ⟨x, hx⟩ := g.glo.dom n d e1
  obtain ⟨d', fd, ps, h1, h2, h3⟩ := g.fns.ok n x hx
  obtain ⟨h4, h5⟩ := g.glo.fn n x hx
  rw [← g.hK] at h2 h3 h5
  refine ⟨_, fd, ps, _, e2, h2, h3, h5, ?_⟩
  exact tM_mono (step0 C1 go2) fun xs H2 ⟨F2, env2, rs, C2, hr, go3⟩ => go_call C2 (hr.mono fun a => C1.fz) h1 go3

/-! ### an own object is written -/
theorem Cond.write {i : Nat} {b : Bool} {o o' : Ob} {a : Addr} {u : HO} (C : Cond G T F0 H0 B F σ H env) (hi : env[i]? = some (Sl.ow b o)) (hs : σ[i]? = some (some (V.ref a))) (hF : F a = none) (r : RepO G F a u o') :
    Cond G T F0 H0 B F σ (upd H a u) (env.set i (.ow b o')) := by
  have so : ∀ c, Own σ (env.set i (.ow b o')) c → Own σ env c := fun c ⟨m, b', o2, q1, q2⟩ => by
    rcases set_at q2 with ⟨rfl, _⟩ | ⟨_, q2⟩
    · exact ⟨m, b, o, q1, hi⟩
    · exact ⟨m, b', o2, q1, q2⟩
  have hown : Own σ env a := ⟨i, b, o, hs, hi⟩
  refine ⟨⟨fun c w q => ?_, by rw [List.length_set]; exact C.now.len, fun m s hm => ?_, fun m m' c b1 b2 o1 o2 h1 h2 h3 h4 => ?_, fun m o1 hm => ?_⟩, C.ext.s0, C.ext.fresh, fun c w q1 q2 => ?_, fun c hc => C.ext.own c (so c hc)⟩
  · rw [upd_ne (ne_of_none q hF)]
    exact C.now.same c w q
  · rcases set_at hm with ⟨rfl, rfl⟩ | ⟨hm', hm⟩
    · exact ⟨_, hs, .ow hF upd_same r⟩
    · obtain ⟨y, h1, h2⟩ := C.now.sl m s hm
      refine ⟨y, h1, ?_⟩
      cases h2 with
      | un => exact .un
      | v h => exact .v h
      | @ow c b1 o1 w k1 k2 k3 =>
        refine .ow k1 ?_ k3
        have : c ≠ a := fun q => hm' (C.now.inj m i a b1 b o1 o (by rw [← q]; exact h1) hs hm hi)
        rw [upd_ne this]
        exact k2
  · rcases set_at h3 with ⟨e1, _⟩ | ⟨_, k3⟩
    · rcases set_at h4 with ⟨e2, _⟩ | ⟨_, k4⟩
      · exact e1.trans e2.symm
      · rw [e1] at h1 ⊢
        exact C.now.inj i m' c b b2 o o2 h1 h2 hi k4
    · rcases set_at h4 with ⟨e2, _⟩ | ⟨_, k4⟩
      · rw [e2] at h2 ⊢
        exact C.now.inj m i c b1 b o1 o h1 h2 k3 hi
      · exact C.now.inj m m' c b1 b2 o1 o2 h1 h2 k3 k4
  · rcases set_at hm with ⟨rfl, q⟩ | ⟨_, hm⟩
    · cases q
      exact C.now.tr m o hi
    · exact C.now.tr m o1 hm
  · have : c ≠ a := fun q => by
      rw [q] at q1 q2
      rcases C.ext.own a hown with z | z
      · rw [z] at q1; cases q1
      · exact q2 z
    rw [upd_ne this]
    exact C.ext.pres c w q1 q2

/-! ### methods -/
def mmId (m : Mm) : String := "list." ++ mmN m
/-- a changing method of an own list -/
def PM (G : Adr) (m : Mm) : V → List V → Hp → VK → Prop := fun x vs H Q => ∃ F a xs l ds pr o', Same F H ∧ x = .ref a ∧ H a = some (.lst xs) ∧ RepL G F xs l ∧ RepL G F vs ds ∧ mmD m (.lst l) ds = some (pr, o') ∧
  ∀ v u' d, pr = .v d → Rep G F v d → RepO G F a u' o' → Q v (upd H a u')
theorem mt_append' : MtR X "list.append" (PM G .append) := by
  intro pins s σ H x vs v us Q I rx rv ⟨F, a, xs, l, ds, pr, o', sm, e, hH, rl, rd, hm, fin⟩
  cases rd with
  | nil => cases hm
  | @cons y ys d ds hd rd =>
    cases rd with
    | cons _ _ => cases hm
    | nil =>
      have hm : (if l.length < sizeLine then some (PR.v D.non, Ob.lst (l ++ [d])) else none) = some (pr, o') := hm
      split at hm
      · rename_i hl
        cases hm
        exact mt_append pins s σ H x [y] v us Q I rx rv ⟨a, xs, y, e, rfl, hH, by rw [rl.length]; exact hl, fin .non _ .non rfl .non (.lst (rl.append (.cons hd .nil)))⟩
      · cases hm
theorem RepL.last {F : Hp} {xs : List V} {l : List D} {d : D} (r : RepL G F xs l) (h : l.getLast? = some d) : ∃ v, xs[xs.length - 1]? = some v ∧ Rep G F v d := by
  rw [List.getLast?_eq_getElem?] at h
  obtain ⟨v, h1, h2⟩ := r.get h
  exact ⟨v, by rw [r.length]; exact h1, h2⟩
theorem mt_pop' : MtR X "list.pop" (PM G .pop) := by
  intro pins s σ H x vs v us Q I rx rv ⟨F, a, xs, l, ds, pr, o', sm, e, hH, rl, rd, hm, fin⟩
  cases rd with
  | cons _ _ => cases hm
  | nil =>
    have hm : (match l.getLast? with
      | some d => some (PR.v d, Ob.lst l.dropLast)
      | none => none) = some (pr, o') := hm
    cases q : l.getLast? with
    | none => rw [q] at hm; cases hm
    | some d =>
      rw [q] at hm
      cases hm
      obtain ⟨y, h1, h2⟩ := rl.last q
      exact mt_pop pins s σ H x [] v us Q I rx rv ⟨a, xs, y, e, rfl, hH, h1, fin y _ d rfl h2 (.lst rl.dropLast)⟩
theorem mt_extendR : MtR X "list.extend" (fun x vs H Q => ∃ l b xs zs, x = .ref l ∧ vs = [.ref b] ∧ H l = some (.lst xs) ∧ Rd H b (.lst zs) ∧ xs.length + zs.length ≤ sizeLine ∧ Q .non (upd H l (.lst (xs ++ zs)))) := by
  intro pins s σ H x vs v us Q I rx rv h
  obtain ⟨l, b, xs, zs, rfl, rfl, hH, hB, hz, q⟩ := h
  cases rx
  obtain ⟨u, rfl, ru⟩ := rv.one
  cases ru
  obtain ⟨z, its, n, r, hl, e⟩ := I.lstM hH
  obtain ⟨z2, its2, n2, r2, hl2, e2⟩ := Rd.lenL I hB
  have hsz : its.toArray.size + its2.toArray.size ≤ sizeLine := by rw [List.size_toArray, List.size_toArray]; omega
  have hlong : ¬ (!its.toArray.isEmpty && Builtin.List.listTooLong (its.toArray.size + its2.toArray.size)) = true := by
    rw [notLongL hsz, Bool.and_false]
    exact Bool.false_ne_true
  refine call_meets PySem.F.slot_list_extend ⟨_, e, rfl⟩ PySem.F.entry_list_extend (PySem.F.args_list_extend_2 _ _)
    (AutoSeq1.list_extend_list_list_0 l its.toArray n b its2.toArray n2 hlong (by rw [List.size_toArray]; omega) (by omega)) ⟨e, e2, ?_⟩
  refine ⟨.non, _, I.lset (its' := its ++ its2) hH e (by simp) (r.append r2) ?_, rfl, q⟩
  rw [List.length_append]
  omega
theorem mt_extend' : MtR X "list.extend" (PM G .extend) := by
  intro pins s σ H x vs v us Q I rx rv ⟨F, a, xs, l, ds, pr, o', sm, e, hH, rl, rd, hm, fin⟩
  cases rd with
  | nil => cases hm
  | @cons y ys d ds hd rd =>
    cases rd with
    | cons _ _ => cases d <;> cases hm
    | nil =>
      cases hd with
      | @lst b zs m hb rm =>
        have hm : (if l.length + m.length ≤ sizeLine then some (PR.v D.non, Ob.lst (l ++ m)) else none) = some (pr, o') := hm
        split at hm
        · rename_i hl
          cases hm
          exact mt_extendR pins s σ H x _ v us Q I rx rv ⟨a, b, xs, zs, e, rfl, hH, sameRd sm hb, by rw [rl.length, rm.length]; exact hl, fin .non _ .non rfl .non (.lst (rl.append rm))⟩
        · cases hm
      | _ => cases hm
/-- behind an own list's check -/
theorem go_ownL {i : Nat} {β δ : Type} {R' : Rl β δ} {f : Unit → M β} {Q : δ → Hp → Prop} (C : Cond G T F0 H0 B F σ H env) (go : Go G T W R' F0 H0 B σ (bnd (ownL i) f env) Q) : ∃ a xs, σ[i]? = some (some (V.ref a)) ∧ H a = some (.lst xs) ∧ Go G T W R' F0 H0 B σ (f () env) Q := by
  unfold bnd ownL at go
  cases e : env[i]? with
  | none => rw [e] at go; exact go.elim
  | some s =>
    rw [e] at go
    obtain ⟨y, h1, h2⟩ := C.now.sl i s e
    cases h2 with
    | un => exact go.elim
    | v r => exact go.elim
    | @ow a b o h k1 k2 k3 =>
      cases k3 with
      | lst r => exact ⟨a, _, h1, k2, go⟩
      | dct r => exact go.elim
      | dic _ _ _ r => exact go.elim
theorem go_mmP {i : Nat} {m : Mm} {x : V} {vs : List V} {ds : List D} {Q : VK} (C : Cond G T F0 H0 B F σ H env) (hx : σ[i]? = some (some x)) (rd : RepL G F vs ds) (go : Go G T W (rR G) F0 H0 B σ (mmP m i ds env) Q) : PM G m x vs H Q := by
  unfold mmP at go
  cases e : env[i]? with
  | none => rw [e] at go; exact go.elim
  | some s =>
    rw [e] at go
    obtain ⟨y, h1, h2⟩ := C.now.sl i s e
    rw [hx] at h1
    cases h1
    cases h2 with
    | un => first | (cases q2; done) | (cases e; done) | (cases e1; done) | (cases h; done) | (cases q; done) | contradiction
    | v r => exact go.elim
    | @ow a b o h k1 k2 k3 =>
      have go : Go G T W (rR G) F0 H0 B σ (match mmD m o ds with
        | some (r, o') => some (.ok r.r (env.set i (.ow b o')))
        | none => none) Q := go
      cases q : mmD m o ds with
      | none => rw [q] at go; exact go.elim
      | some ro =>
        obtain ⟨pr, o'⟩ := ro
        rw [q] at go
        cases k3 with
        | dct r => cases m <;> cases q
        | dic _ _ _ r => cases m <;> cases q
        | lst r =>
          refine ⟨F, a, _, _, ds, pr, o', C.now.same, rfl, k2, r, rd, q, fun v u' d e1 hv hu => ?_⟩
          subst e1
          exact go F (upd H a u') v (C.write e hx k1 hu) (.v hv)
theorem e_mm (g : Good G nm tb cf k S X) {m : Mm} {i : Nat} {x : Str} {p ap pos : Pos} {es : List Expr} {ml : M (List R)} (hid : MtR X (mmId m) (PM G m)) (slot : Slot "list" (mmN m : Str) (mmId m)) (hty : typeOf (.builtin (mmId m)) = pure (.type "method_descriptor"))
    (hN : S.N[i]? = some x) (hv : visB S x = true) (hp : plainB x = true) (hl : (ap.endLine == pos.line) = true) (hst : ∀ x ∈ es, noStar x = true) (hfew : es.length < 29) (ha : PA X es (tL G T W ml)) :
    PE X (.Call (.Attribute (.Name x p) (mmN m : Str) ap) es [] pos) (tR G T W (bnd (ownL i) fun _ => bnd ml fun rs => bnd (frzL rs) fun ds => mmP m i ds)) := by
  have ho : PE X (.Name x p) (tVar i) := pe_var (i := i) (by rw [g.hN]; exact hN) (g.vis hv) (plain_db hp).1 (plain_db hp).2
  cases es with
  | nil =>
    refine ⟨fun pins s σ H Q I h => ?_⟩
    have hA := ha
    obtain ⟨F0, H0, B, F, env, C, go⟩ := h
    obtain ⟨a, xs, h1, h2, go1⟩ := go_ownL C go
    have hml := (ha.run pos pins s σ H _ I (step0 (R' := rL G) C go1))
    have hml : wpAny (model X.prog X.w) X.A (pure ([] : List Value)) _ X.xe s := hml
    intro Γ pp hΓ
    obtain ⟨vs, H1, I1, rv, F1, env1, rs, C1, hr, go2⟩ := hml Γ pp hΓ
    cases rv
    obtain ⟨ds, e2, q, go3⟩ := go_bnd go2 fun x e => frzL_noex x e
    obtain ⟨F2, C2, sf, rl⟩ := frzL_ok C1 (hr.mono fun a => C.fz) q
    have fin := go_mmP C2 h1 rl go3
    have fin2 := fin
    obtain ⟨F3, a', xs', l', ds', pr, o', sm, e3, hH', _⟩ := fin2
    cases e3
    exact (pe_bm0 (apos := ap) (cpos := pos) PySem.F.plainAttrs_list slot hty hid ho rfl hl).run pins s σ H1 Q I1 ⟨.ref a, h1, .inl ⟨rfl, xs', SqL.of hH'⟩, fin⟩ Γ pp hΓ
  | cons e es =>
    have he := star_cons (env := X.env) (es := es) (hst e List.mem_cons_self)
    have hpl := any_star (env := X.env) (pos := pos) (xs := es) fun x hx => hst x (List.mem_cons_of_mem _ hx)
    have hall := any_star (env := X.env) (pos := pos) (xs := e :: es) hst
    refine pe_mono (pe_bm PySem.F.plainAttrs_list slot hty hid ho ha rfl ?_ hl he hpl) fun σ H Q ⟨F0, H0, B, F, env, C, go⟩ => ?_
    · rw [Bool.and_eq_true, Bool.and_eq_true]
      refine ⟨⟨?_, rfl⟩, decide_eq_true (by simp only [List.length_nil, List.isEmpty_nil, if_true]; omega)⟩
      rw [List.all_eq_true]
      intro y hy
      have := List.any_eq_false.mp hall y hy
      simpa using this
    · obtain ⟨a, xs, h1, h2, go1⟩ := go_ownL C go
      refine ⟨.ref a, h1, .inl ⟨rfl, xs, SqL.of h2⟩, ?_⟩
      refine tM_mono (step0 C go1) fun vs H1 ⟨F1, env1, rs, C1, hr, go2⟩ => ?_
      obtain ⟨ds, e2, q, go3⟩ := go_bnd go2 fun x e => frzL_noex x e
      obtain ⟨F2, C2, sf, rl⟩ := frzL_ok C1 (hr.mono fun a => C.fz) q
      exact go_mmP C2 h1 rl go3
end
end Ev

set_option Elab.async false
set_option linter.all false
set_option maxRecDepth 100000
set_option maxHeartbeats 1000000
/-! l.index(x); what is walked. -/
namespace Ev
open PySem PySem.Spec L2
open PyProof.Rows hiding St
open RZ
section
variable {G : Adr} {nm : Nm} {tb : Tab} {cf : CF} {k : Nat} {S : SC} {X : Cx} {T : Nat → Addr → Prop} {W : WX} {F0 H0 F H : Hp} {B : Addr → Prop} {σ : St} {env : Env}
def PIx (G : Adr) (m : Bm) : V → List V → Hp → VK → Prop := fun x vs H Q => ∃ F c ds pr, Same F H ∧ BRep G F H x c ∧ BReps G F H vs ds ∧ bmD m c ds = some pr ∧ ∀ v F' H', PPost G F H pr v F' H' → Q v H'
theorem mt_index' (hK : X.K = G.K) (hu : X.A.units + 100 < cLine) : MtR X "list.index" (PIx G .lindex) := by
  intro pins s σ H x vs v us Q I rx rv ⟨F, c, ds, pr, sm, hx, hv, hm, fin⟩
  have shape : ∃ l d, c = .lst l ∧ ds = [d] := by
    cases c with
    | lst l =>
      cases ds with
      | nil => cases hm
      | cons d ds => cases ds with
        | nil => exact ⟨l, d, rfl, rfl⟩
        | cons _ _ => cases hm
    | _ => cases hm
  obtain ⟨l, d, rfl, rfl⟩ := shape
  unfold bmD at hm
  · cases q1 : toPy d with
    | none => simp only [q1] at hm; cases hm
    | some y =>
      cases q2 : toPyL l with
      | none => simp only [q1, q2] at hm; cases hm
      | some ys =>
        simp only [q1, q2] at hm
        split at hm
        · rename_i hs
          obtain ⟨s1, s2⟩ := Bool.and_eq_true_iff.mp hs
          cases q3 : ys.findIdx? fun z => PyData.eqv z y with
          | none => rw [q3] at hm; cases hm
          | some j =>
            rw [q3] at hm
            cases hm
            obtain ⟨hj, h1, h2⟩ := List.findIdx?_eq_some_iff_getElem.mp q3
            obtain ⟨w, rfl, hw⟩ := hv.one
            obtain ⟨a, xs, rfl, _, _⟩ := hx.lst sm
            have d1 := hx.dp sm (toPy_lst q2)
            have d2 := hw.dp sm q1
            rw [← hK] at d1 d2
            refine mt_indexD (by omega) pins s σ H _ _ v us Q I rx rv ⟨a, w, y, ys, j, ys[j], rfl, rfl, d1, d2, s2, s1, List.getElem?_eq_getElem hj, h1, fun m z' hm' hz => ?_, fin _ F H (.int sm)⟩
            have hml : m < ys.length := by omega
            rw [List.getElem?_eq_getElem hml] at hz
            cases hz
            have := h2 m hm'
            simpa using this
        · cases hm
theorem go_isLst {a : R} {x : V} {Z : Addr → Prop} {β δ : Type} {R' : Rl β δ} {f : Unit → M β} {Q : δ → Hp → Prop} (C : Cond G T F0 H0 B F σ H env) (h : HR G Z F σ H env a x) (go : Go G T W R' F0 H0 B σ (bnd (isLst a) f env) Q) : (∃ b xs, x = .ref b ∧ Rd H b (.lst xs)) ∧ Go G T W R' F0 H0 B σ (f () env) Q := by
  unfold bnd isLst at go
  cases e : cont env a with
  | none => rw [e] at go; exact go.elim
  | some d =>
    rw [e] at go
    cases d with
    | lst l =>
      obtain ⟨b, xs, e1, e2, _⟩ := (h.cont C.now e).lst C.now.same
      exact ⟨⟨b, xs, e1, e2⟩, go⟩
    | _ => exact go.elim
theorem go_bmP {m : Bm} {a : R} {rs : List R} {x : V} {vs : List V} {Z Z' : Addr → Prop} {Q : VK} (C : Cond G T F0 H0 B F σ H env) (h : HR G Z F σ H env a x) (hr : HRs G Z' F σ H env rs vs) (go : Go G T W (rR G) F0 H0 B σ (bmP m a rs env) Q) : PIx G m x vs H Q := by
  unfold bmP at go
  cases e : cont env a with
  | none => rw [e] at go; exact go.elim
  | some c =>
    rw [e] at go
    obtain ⟨F1, cs, pr, z1, z2, z3, z4⟩ := go_all C hr go
    unfold allP at go
    cases q : conts env rs with
    | none => rw [q] at go; exact go.elim
    | some ds =>
      have go : Go G T W (rR G) F0 H0 B σ (match (some ds : Option (List D)) with
        | some ds => (match bmD m c ds with
          | some r => some (.ok r.r env)
          | none => none)
        | none => none) Q := by rw [q] at go; exact go
      have go : Go G T W (rR G) F0 H0 B σ (match bmD m c ds with
          | some r => some (.ok r.r env)
          | none => none) Q := go
      cases q2 : bmD m c ds with
      | none => rw [q2] at go; exact go.elim
      | some pr =>
        rw [q2] at go
        refine ⟨F, c, ds, pr, C.now.same, h.cont C.now e, hr.content C.now q, q2, fun v F' H' p => ?_⟩
        obtain ⟨c1, c2⟩ := p.cond C
        exact go F' H' v c1 c2
theorem mt_count' (hK : X.K = G.K) (hu : X.A.units + 100 < cLine) : MtR X "list.count" (PIx G .lcount) := by
  intro pins s σ H x vs v us Q I rx rv ⟨F, c, ds, pr, sm, hx, hv, hm, fin⟩
  have shape : ∃ l d, c = .lst l ∧ ds = [d] := by
    cases c with
    | lst l =>
      cases ds with
      | nil => cases hm
      | cons d ds => cases ds with
        | nil => exact ⟨l, d, rfl, rfl⟩
        | cons _ _ => cases hm
    | _ => cases hm
  obtain ⟨l, d, rfl, rfl⟩ := shape
  unfold bmD at hm
  · cases q1 : toPy d with
    | none => simp only [q1] at hm; cases hm
    | some y =>
      cases q2 : toPyL l with
      | none => simp only [q1, q2] at hm; cases hm
      | some ys =>
        simp only [q1, q2] at hm
        split at hm
        · rename_i hs
          obtain ⟨s1, s2⟩ := Bool.and_eq_true_iff.mp hs
          cases hm
          obtain ⟨w, rfl, hw⟩ := hv.one
          have d2 := hw.dp sm q1
          rw [← hK] at d2
          obtain ⟨uy, rfl, ry⟩ := rv.one
          obtain ⟨bs, r1⟩ := Dp.reads I y w uy d2 ry
          obtain ⟨a, xs, rfl, hl, hr⟩ := hx.lst sm
          cases rx
          obtain ⟨its, rvs, ⟨⟨cls, dd, data, sls⟩, n, ho, hc, hdn, hdt⟩, hlen⟩ := I.list (.inl hl)
          simp only at hc hdt
          subst hc hdt
          have da := hr.dp sm q2
          rw [← hK] at da
          obtain ⟨as, h4⟩ := Dp.readsAll I ys _ its da rvs
          have hxs : PyData.canLayAll0 ys = true := SeqAt.canLay_of_shaped s2
          have hmap : its.map (SeqAt.readOf s.heap) = ys := SeqAt.readsAll_map ys its as hxs h4
          have hroom : X.A.units + 1 + min (PyData.depthAll ys) y.depth < cLine := roomIn s1 hu
          refine call_meets PySem.F.slot_list_count ⟨_, ho, rfl⟩ PySem.F.entry_list_count (PySem.F.args_list_count_2 _ _)
            (SeqAt.list_countAt a its.toArray n dd sls uy (fun u => PyData.eqv (SeqAt.readOf s.heap u) y)) ⟨ho, SeqAt.items_eqAt (vs := its.toArray) (show ReadsAll s.heap its.toArray.toList ys as from h4) r1 hxs (SeqAt.canLay_of_shaped s1) hroom, ?_⟩
          have e1 : its.toArray.toList.countP (fun u => PyData.eqv (SeqAt.readOf s.heap u) y) = ys.countP fun z => PyData.eqv z y := by
            rw [← hmap, List.countP_map]
            rfl
          refine ⟨.int ((ys.countP fun z => PyData.eqv z y : Nat) : Int), H, I.tok _, ⟨s.toks, ?_⟩, fin _ F H (.int sm)⟩
          rw [e1]
        · cases hm
def bmId (m : Bm) : String := "list." ++ bmN m
theorem e_bm (g : Good G nm tb cf k S X) {m : Bm} (hid : MtR X (bmId m) (PIx G m)) (slot : Slot "list" (bmN m : Str) (bmId m)) (hty : typeOf (.builtin (bmId m)) = pure (.type "method_descriptor")) {o : Expr} {ap pos : Pos} {es : List Expr} {mo : M R} {ml : M (List R)} (hl : (ap.endLine == pos.line) = true) (hst : ∀ x ∈ es, noStar x = true) (hfew : es.length < 29) (h0 : es ≠ []) (hoc : ∀ a b c d, o ≠ .Call a b c d)
    (ho : PE X o (tR G T W mo)) (ha : PA X es (tL G T W ml)) :
    PE X (.Call (.Attribute o (bmN m : Str) ap) es [] pos) (tR G T W (bnd mo fun x => bnd (isLst x) fun _ => bnd ml fun rs => bmP m x rs)) := by
  cases es with
  | nil => exact absurd rfl h0
  | cons e es =>
    have he := star_cons (env := X.env) (es := es) (hst e List.mem_cons_self)
    have hpl := any_star (env := X.env) (pos := pos) (xs := es) fun x hx => hst x (List.mem_cons_of_mem _ hx)
    have hall := any_star (env := X.env) (pos := pos) (xs := e :: es) hst
    refine pe_mono (pe_bm PySem.F.plainAttrs_list slot hty hid ho ha ?_ ?_ hl he hpl) fun σ H Q ⟨F0, H0, B, F, env, C, go⟩ => ?_
    · cases o <;> first
        | rfl
        | exact absurd rfl (hoc _ _ _ _)
    · rw [Bool.and_eq_true, Bool.and_eq_true]
      refine ⟨⟨?_, rfl⟩, decide_eq_true (by simp only [List.length_nil, List.isEmpty_nil, if_true]; omega)⟩
      rw [List.all_eq_true]
      intro y hy
      have := List.any_eq_false.mp hall y hy
      simpa using this
    · refine tM_mono (step0 C go) fun x H1 ⟨F1, env1, a, C1, h1, go1⟩ => ?_
      obtain ⟨⟨b, xs, e1, e2⟩, go2⟩ := go_isLst C1 h1 go1
      refine ⟨?_, tM_mono (step (HR.stable _ _ _) C1 h1 go2) fun vs H2 ⟨F2, env2, rs, C2, h1', hr, go3⟩ => go_bmP C2 h1' hr go3⟩
      rw [e1]
      exact .inl ⟨rfl, xs, .inl e2⟩

/-! ### what is walked -/
/-- J yields the things of ds, in a heap that holds at least F -/
def JOk (G : Adr) (F : Hp) (ds : List D) (J : It) : Prop := ∀ F2 H2, Same F F2 → Same F2 H2 → ∀ i,
  (i < ds.length → J.go i H2 ∧ ∀ x H', J.yld i H2 x H' → ∃ d F', ds[i]? = some d ∧ PPost G F2 H2 (.v d) x F' H') ∧ (ds.length ≤ i → J.stop i H2)
def rI (G : Adr) : Rl (List D) It := fun _ F _ _ _ ds J => JOk G F ds J
def tI (G : Adr) (T : Nat → Addr → Prop) (W : WX) (m : M (List D)) : TI := tM G T W (rI G) m
theorem pi_mono {tg e : Expr} {t t' : TI} (h : PI X tg e t) (m : ∀ σ H Q, t' σ H Q → t σ H Q) : PI X tg e t' := ⟨fun pins s σ H Q I hw => h.run pins s σ H Q I (m σ H Q hw)⟩
theorem JOk.seq {a : Addr} {xs : List V} {l : List D} (h : SqL G.K F a xs) (r : RepL G F xs l) : JOk G F l (Itl G.K a) := by
  intro F2 H2 sf sh i
  have hq := (sf.trans sh).seq h
  have r2 := r.mono sf
  refine ⟨fun hi => ?_, fun hi => ⟨xs, hq, by rw [r.length]; exact hi⟩⟩
  have hx : i < xs.length := by rw [r.length]; exact hi
  refine ⟨⟨xs, xs[i], hq, List.getElem?_eq_getElem hx⟩, fun x H' ⟨e, y⟩ => ?_⟩
  subst e
  obtain ⟨d, h1, h2⟩ := r2.getV (y xs hq)
  exact ⟨d, F2, h1, PPost.val sh h2⟩
theorem JOk.tup {a : Addr} {xs : List V} {l : List D} (h : SqT G.K F a xs) (r : RepL G F xs l) : JOk G F l (Itt G.K a) := by
  intro F2 H2 sf sh i
  have hq := sameSeqT (sf.trans sh) h
  have r2 := r.mono sf
  refine ⟨fun hi => ?_, fun hi => ⟨xs, hq, by rw [r.length]; exact hi⟩⟩
  have hx : i < xs.length := by rw [r.length]; exact hi
  refine ⟨⟨xs, xs[i], hq, List.getElem?_eq_getElem hx⟩, fun x H' ⟨e, y⟩ => ?_⟩
  subst e
  obtain ⟨d, h1, h2⟩ := r2.getV (y xs hq)
  exact ⟨d, F2, h1, PPost.val sh h2⟩
theorem rngL_len (lo : Int) (n : Nat) : (rngL lo n).length = n := by unfold rngL; rw [List.length_map, List.length_range]
theorem JOk.rng (lo : Int) (n : Nat) : JOk G F (rngL lo n) (Itr lo n) := by
  intro F2 H2 sf sh i
  rw [rngL_len]
  refine ⟨fun hi => ⟨hi, fun x H' ⟨e, y⟩ => ?_⟩, fun hi => hi⟩
  subst e y
  refine ⟨.int (lo + i), F2, ?_, .int sh⟩
  unfold rngL
  rw [List.getElem?_map, List.getElem?_range hi]
  rfl
theorem JOk.enum {a : Addr} {xs : List V} {l : List D} (h : SqL G.K F a xs) (r : RepL G F xs l) : JOk G F (l.mapIdx fun i d => .tup [.int i, d]) (Ite G.K a) := by
  intro F2 H2 sf sh i
  have hq := (sf.trans sh).seq h
  have r2 := r.mono sf
  rw [List.length_mapIdx]
  refine ⟨fun hi => ?_, fun hi => ⟨xs, hq, by rw [r.length]; exact hi⟩⟩
  have hx : i < xs.length := by rw [r.length]; exact hi
  refine ⟨⟨xs, xs[i], hq, List.getElem?_eq_getElem hx⟩, fun x H' ⟨p, y, e1, hp, e2, hy⟩ => ?_⟩
  subst e1 e2
  obtain ⟨d, h1, h2⟩ := r2.getV (hy xs hq)
  refine ⟨.tup [.int i, d], _, ?_, PPost.tup sh hp (.cons (.int i) (.cons h2 .nil))⟩
  rw [List.getElem?_mapIdx, h1]
  rfl
theorem zipL_len (l m : List D) : (zipL l m).length = min l.length m.length := by unfold zipL; rw [List.length_map, List.length_zip]
theorem zipL_at {l m : List D} {i : Nat} {d e : D} (h1 : l[i]? = some d) (h2 : m[i]? = some e) : (zipL l m)[i]? = some (.tup [d, e]) := by
  unfold zipL
  rw [List.getElem?_map, show (l.zip m)[i]? = some (d, e) from List.getElem?_zip_eq_some.mpr ⟨h1, h2⟩]
  rfl
theorem JOk.zip {a b : Addr} {xs ys : List V} {l m : List D} (h : SqL G.K F a xs) (r : RepL G F xs l) (h' : SqL G.K F b ys) (r' : RepL G F ys m) : JOk G F (zipL l m) (Itz G.K a b) := by
  intro F2 H2 sf sh i
  have hq := (sf.trans sh).seq h
  have hq' := (sf.trans sh).seq h'
  have r2 := r.mono sf
  have r2' := r'.mono sf
  rw [zipL_len]
  refine ⟨fun hi => ?_, fun hi => ⟨xs, ys, hq, hq', by rw [r.length, r'.length]; omega⟩⟩
  have hx : i < xs.length := by rw [r.length]; omega
  have hy : i < ys.length := by rw [r'.length]; omega
  refine ⟨⟨xs, ys, xs[i], ys[i], hq, hq', List.getElem?_eq_getElem hx, List.getElem?_eq_getElem hy⟩, fun x H' ⟨p, y, z, e1, hp, e2, hy, hz⟩ => ?_⟩
  subst e1 e2
  obtain ⟨d, h1, h2⟩ := r2.getV (hy xs hq)
  obtain ⟨e, h3, h4⟩ := r2'.getV (hz ys hq')
  exact ⟨.tup [d, e], _, zipL_at h1 h3, PPost.tup sh hp (.cons h2 (.cons h4 .nil))⟩
theorem JOk.zipT {a b : Addr} {xs ys : List V} {l m : List D} (h : SqT G.K F a xs) (r : RepL G F xs l) (h' : SqT G.K F b ys) (r' : RepL G F ys m) : JOk G F (zipL l m) (ItzT G.K a b) := by
  intro F2 H2 sf sh i
  have hq := sameSeqT (sf.trans sh) h
  have hq' := sameSeqT (sf.trans sh) h'
  have r2 := r.mono sf
  have r2' := r'.mono sf
  rw [zipL_len]
  refine ⟨fun hi => ?_, fun hi => ⟨xs, ys, hq, hq', by rw [r.length, r'.length]; omega⟩⟩
  have hx : i < xs.length := by rw [r.length]; omega
  have hy : i < ys.length := by rw [r'.length]; omega
  refine ⟨⟨xs, ys, xs[i], ys[i], hq, hq', List.getElem?_eq_getElem hx, List.getElem?_eq_getElem hy⟩, fun x H' ⟨p, y, z, e1, hp, e2, hy, hz⟩ => ?_⟩
  subst e1 e2
  obtain ⟨d, h1, h2⟩ := r2.getV (hy xs hq)
  obtain ⟨e, h3, h4⟩ := r2'.getV (hz ys hq')
  exact ⟨.tup [d, e], _, zipL_at h1 h3, PPost.tup sh hp (.cons h2 (.cons h4 .nil))⟩
/-- a list or a tuple, walked -/
def iSq (K : PySem.W.Frag) (tl : TE) : TI := fun σ H R => tl σ H fun x H1 => ∃ a, x = .ref a ∧ (((∃ xs, SqL K H1 a xs) ∧ R (Itl K a) H1) ∨ ((∃ xs, SqT K H1 a xs) ∧ R (Itt K a) H1))
theorem pi_sq {tg l : Expr} {tl : TE} (hl : PE X l tl) : PI X tg l (iSq X.K tl) := by
  refine ⟨fun pins s σ H R I h => ?_⟩
  refine thn (hl.run pins s σ H _ I h) fun v s1 ⟨x, H1, I1, r1, q1⟩ => ?_
  obtain ⟨a, e, q1⟩ := q1
  subst e
  cases r1
  rcases q1 with ⟨⟨xs, hq⟩, q⟩ | ⟨⟨xs, hq⟩, q⟩
  · obtain ⟨its, rv, p, hz⟩ := I1.list hq
    refine wpAny_pyIter_list p.isList ?_
    refine ⟨s1.heap.objs.size, [s1.heap.objs.size], _, _, H1, rfl, I1.kept (t' := s1.toks) fun b o e => Heap.get?_push_of_some _ e, turn_list a _, ⟨_, Heap.get?_push_size _ rfl, rfl, rfl⟩, fun b hb => ?_, q⟩
    have e : b = s1.heap.objs.size := by simpa using hb
    subst e
    exact I1.fpOk (Nat.le_refl _) (I1.hok.fresh (Nat.le_refl _))
  · obtain ⟨its, rv, p, hz⟩ := I1.tuple hq
    refine wpAny_pyIter_tuple (show s1.heap.IsTuple a its.toArray from p) ?_
    refine ⟨s1.heap.objs.size, [s1.heap.objs.size], _, _, H1, rfl, I1.kept (t' := s1.toks) fun b o e => Heap.get?_push_of_some _ e, turn_tuple a _, ⟨_, Heap.get?_push_size _ rfl, rfl, rfl⟩, fun b hb => ?_, q⟩
    have e : b = s1.heap.objs.size := by simpa using hb
    subst e
    exact I1.fpOk (Nat.le_refl _) (I1.hok.fresh (Nat.le_refl _))
/-- a thing that is shared, in the heap as it is -/
theorem Rep.seqOf {x : V} {d : D} {l : List D} (sm : Same F H) (h : Rep G F x d) (e : seqD d = some l) : ∃ a, x = .ref a ∧ (((∃ xs, SqL G.K H a xs) ∧ JOk G F l (Itl G.K a)) ∨ ((∃ xs, SqT G.K H a xs) ∧ JOk G F l (Itt G.K a))) := by
  cases h <;> cases e
  · rename_i h r
    exact ⟨_, rfl, .inr ⟨⟨_, sameSeqT sm h⟩, JOk.tup h r⟩⟩
  · rename_i h r
    exact ⟨_, rfl, .inl ⟨⟨_, .inl (sameRd sm h)⟩, JOk.seq (.inl h) r⟩⟩
  · rename_i h r
    exact ⟨_, rfl, .inl ⟨⟨_, sm.seq h⟩, JOk.seq h r⟩⟩
theorem Rep.lstOf {x : V} {d : D} {l : List D} (h : Rep G F x d) (e : lstD d = some l) : ∃ a xs, x = .ref a ∧ SqL G.K F a xs ∧ RepL G F xs l := by
  cases h <;> cases e
  · rename_i h r
    exact ⟨_, _, rfl, .inl h, r⟩
  · rename_i h r
    exact ⟨_, _, rfl, h, r⟩
theorem Rep.tupOf {x : V} {d : D} {l : List D} (h : Rep G F x d) (e : tupD d = some l) : ∃ a xs, x = .ref a ∧ SqT G.K F a xs ∧ RepL G F xs l := by
  cases h <;> cases e
  rename_i h r
  exact ⟨_, _, rfl, h, r⟩
theorem go_lftI {o : Option (List D)} {Q : It → Hp → Prop} (go : Go G T W (rI G) F0 H0 B σ (lft o env) Q) : ∃ r, o = some r ∧ Go G T W (rI G) F0 H0 B σ (some (.ok r env)) Q := by
  unfold lft at go
  cases o with
  | none => exact go.elim
  | some r => exact ⟨r, rfl, go⟩
section
variable {a b tg : Expr} {ma mb : M R} {p pos : Pos}
theorem i_sq (g : Good G nm tb cf k S X) (ha : PE X a (tR G T W ma)) : PI X tg a (tI G T W (bnd ma frS)) := by
  refine pi_mono (pi_sq ha) fun σ H Q ⟨F0, H0, B, F, env, C, go⟩ => ?_
  refine tM_mono (step0 C go) fun x H1 ⟨F1, env1, r, C1, h1, go1⟩ => ?_
  obtain ⟨d, e1, q, go2⟩ := go_bnd (f := fun d => lft (seqD d)) go1 fun x e => frz_noex r env1 x e
  obtain ⟨F2, C2, hd, sf, _⟩ := frz_ok C1 (h1.mono fun a => C.fz) q
  obtain ⟨l, e2, go3⟩ := go_lftI go2
  obtain ⟨a, e3, h⟩ := hd.seqOf C2.now.same e2
  rw [g.hK]
  refine ⟨a, e3, ?_⟩
  rcases h with ⟨h1, h2⟩ | ⟨h1, h2⟩
  · exact .inl ⟨h1, go3 F2 H1 _ C2 h2⟩
  · exact .inr ⟨h1, go3 F2 H1 _ C2 h2⟩
theorem bigI_ok {i : Int} (h : bigI i = true) : -(2 ^ 62) ≤ i ∧ i < 2 ^ 62 := by
  unfold bigI at h
  obtain ⟨h1, h2⟩ := Bool.and_eq_true_iff.mp h
  have h1 := geS_iff.mp h1
  have h2 := leS_iff.mp h2
  have e : (2 : Int) ^ 62 = 4611686018427387904 := by decide
  rw [e]
  omega
theorem i_rng1 (g : Good G nm tb cf k S X) (hg : glB S ("range" : Str) = true) (hs : noStar a = true) (ha : PE X a (tR G T W ma)) : PI X tg (.Call (.Name "range" p) [a] [] pos) (tI G T W (bnd ma fun x => bnd (intR x) fun i => if bigI i then ret (rngL 0 i.toNat) else stuck)) := by
  refine pi_mono (pi_range1 (g.gl hg) (g.glo.blt _ (by decide)) (pa_cons ha pa_nil (star_cons hs)) (star_cons hs)) fun σ H Q ⟨F0, H0, B, F, env, C, go⟩ => ?_
  refine tM_mono (step0 C go) fun x H1 ⟨F1, env1, r, C1, h1, go1⟩ => ?_
  obtain ⟨i, e, go2⟩ := go_intR C1 h1 go1
  by_cases hb : bigI i = true
  · rw [if_pos hb] at go2
    obtain ⟨b1, b2⟩ := bigI_ok hb
    exact ⟨i, by rw [e], b1, b2, go2 F1 H1 _ C1 (JOk.rng 0 i.toNat)⟩
  · rw [if_neg hb] at go2; exact go2.elim
theorem i_rng2 (g : Good G nm tb cf k S X) (hg : glB S ("range" : Str) = true) (hs : noStar a = true) (hs2 : noStar b = true) (ha : PE X a (tR G T W ma)) (hb : PE X b (tR G T W mb)) : PI X tg (.Call (.Name "range" p) [a, b] [] pos) (tI G T W (bnd ma fun x => bnd mb fun y => bnd (intR x) fun i => bnd (intR y) fun j => if bigI i && bigI j then ret (rngL i (j - i).toNat) else stuck)) := by
  refine pi_mono (pi_range2 (g.gl hg) (g.glo.blt _ (by decide)) (pa_cons ha (pa_cons hb pa_nil (star_cons hs2)) (star_cons hs)) (by rw [star_cons hs, star_cons hs2]; rfl) (star_cons hs2)) fun σ H Q ⟨F0, H0, B, F, env, C, go⟩ => ?_
  refine tM_mono (step0 C go) fun x H1 ⟨F1, env1, r, C1, h1, go1⟩ => ?_
  refine tM_mono (step (HR.stable _ _ _) C1 h1 go1) fun y H2 ⟨F2, env2, r2, C2, h1', h2, go2⟩ => ?_
  obtain ⟨i, e, go3⟩ := go_intR C2 h1' go2
  obtain ⟨j, e', go4⟩ := go_intR C2 h2 go3
  by_cases hb : (bigI i && bigI j) = true
  · rw [if_pos hb] at go4
    obtain ⟨hb1, hb2⟩ := Bool.and_eq_true_iff.mp hb
    obtain ⟨b1, b2⟩ := bigI_ok hb1
    obtain ⟨b3, b4⟩ := bigI_ok hb2
    exact ⟨i, j, by rw [e, e'], ⟨b1, b2, b3, b4⟩, go4 F2 H2 _ C2 (JOk.rng i _)⟩
  · rw [if_neg hb] at go4; exact go4.elim
theorem i_enum (g : Good G nm tb cf k S X) {elts : List Expr} {kk : Nat} {tpos : Pos} (hg : glB S ("enumerate" : Str) = true) (hs : noStar a = true) (ha : PE X a (tR G T W ma)) : PI X (.Tuple elts kk tpos) (.Call (.Name "enumerate" p) [a] [] pos) (tI G T W (bnd ma fun x => bnd (frz x) fun d => lft (enumD d))) := by
  refine pi_mono (pi_enum (g.gl hg) (g.glo.blt _ (by decide)) (pa_cons ha pa_nil (star_cons hs)) (star_cons hs)) fun σ H Q ⟨F0, H0, B, F, env, C, go⟩ => ?_
  refine tM_mono (step0 C go) fun x H1 ⟨F1, env1, r, C1, h1, go1⟩ => ?_
  obtain ⟨d, e1, q, go2⟩ := go_bnd go1 fun x e => frz_noex r env1 x e
  obtain ⟨F2, C2, hd, sf, _⟩ := frz_ok C1 (h1.mono fun a => C.fz) q
  obtain ⟨l, e2, go3⟩ := go_lftI go2
  unfold enumD at e2
  cases q2 : lstD d with
  | none => rw [q2] at e2; cases e2
  | some l' =>
    rw [q2] at e2
    cases e2
    obtain ⟨a, xs, e3, h2, h3⟩ := hd.lstOf q2
    rw [g.hK]
    exact ⟨a, xs, by rw [e3], C2.now.same.seq h2, go3 F2 H1 _ C2 (JOk.enum h2 h3)⟩
theorem i_zip (g : Good G nm tb cf k S X) {elts : List Expr} {kk : Nat} {tpos : Pos} (hg : glB S ("zip" : Str) = true) (hs : noStar a = true) (hs2 : noStar b = true) (ha : PE X a (tR G T W ma)) (hb : PE X b (tR G T W mb)) : PI X (.Tuple elts kk tpos) (.Call (.Name "zip" p) [a, b] [] pos) (tI G T W (bnd ma fun x => bnd (frz x) fun d => bnd mb fun y => bnd (frz y) fun e => lft (zipD d e))) := by
  refine pi_mono (pi_zipA (g.gl hg) (g.glo.blt _ (by decide)) (pa_cons ha (pa_cons hb pa_nil (star_cons hs2)) (star_cons hs)) (star_cons hs) (any_star fun x hx => by rw [List.mem_singleton.mp hx]; exact hs2)) fun σ H Q ⟨F0, H0, B, F, env, C, go⟩ => ?_
  refine tM_mono (step0 C go) fun x H1 ⟨F1, env1, r, C1, h1, go1⟩ => ?_
  obtain ⟨d, e1, q, go2⟩ := go_bnd go1 fun x e => frz_noex r env1 x e
  obtain ⟨F2, C2, hd, sf, _⟩ := frz_ok C1 (h1.mono fun a => C.fz) q
  refine tM_mono (step (P := fun F _ _ _ => Rep G F x d) Stable.rep C2 hd go2) fun y H2 ⟨F3, env3, r2, C3, hd', h2, go3⟩ => ?_
  obtain ⟨e, e4, q4, go4⟩ := go_bnd go3 fun x e => frz_noex r2 env3 x e
  obtain ⟨F4, C4, he, sf4, _⟩ := frz_ok C3 (h2.mono fun a => C2.fz) q4
  obtain ⟨l, e5, go5⟩ := go_lftI go4
  have hd4 := hd'.mono sf4
  rw [g.hK]
  have e5' : (match lstD d, lstD e with
    | some l, some m => some (zipL l m)
    | _, _ => match tupD d, tupD e with
      | some l, some m => some (zipL l m)
      | _, _ => none) = some l := e5
  cases q1 : lstD d with
  | some l1 =>
    cases q2 : lstD e with
    | some l2 =>
      simp only [q1, q2] at e5'
      cases e5'
      obtain ⟨a1, xs, e6, h6, r6⟩ := hd4.lstOf q1
      obtain ⟨a2, ys, e7, h7, r7⟩ := he.lstOf q2
      exact ⟨a1, a2, xs, ys, by rw [e6, e7], .inl ⟨C4.now.same.seq h6, C4.now.same.seq h7, go5 F4 H2 _ C4 (JOk.zip h6 r6 h7 r7)⟩⟩
    | none =>
      cases d <;> first
        | (cases q1; done)
        | (simp only [q1, q2, tupD] at e5'; cases e5')
  | none =>
    cases q3 : tupD d with
    | none => simp only [q1, q3] at e5'; cases e5'
    | some l1 =>
      cases q4' : tupD e with
      | none => simp only [q1, q3, q4'] at e5'; cases e5'
      | some l2 =>
        simp only [q1, q3, q4'] at e5'
        cases e5'
        obtain ⟨a1, xs, e6, h6, r6⟩ := hd4.tupOf q3
        obtain ⟨a2, ys, e7, h7, r7⟩ := he.tupOf q4'
        exact ⟨a1, a2, xs, ys, by rw [e6, e7], .inr ⟨sameSeqT C4.now.same h6, sameSeqT C4.now.same h7, go5 F4 H2 _ C4 (JOk.zipT h6 r6 h7 r7)⟩⟩
end
end
end Ev

set_option Elab.async false
set_option linter.all false
set_option maxRecDepth 100000
set_option maxHeartbeats 1000000
/-! Comprehensions. -/
namespace Ev
open PySem PySem.Spec L2
open PyProof.Rows hiding St
section
variable {G : Adr} {nm : Nm} {tb : Tab} {cf : CF} {k : Nat} {S : SC} {X : Cx} {T : Nat → Addr → Prop} {W : WX} {F0 H0 F H : Hp} {B : Addr → Prop} {σ : St} {env : Env}
/-- no exception leaves a block -/
def W0 : WX := fun _ _ _ _ => False
theorem takes0 : Takes X W0 := fun _ _ ⟨_, _, _, _, _, _, _, _, _, _, _, _, _, _, _, _, w⟩ => w.elim
/-- a new object stays, whatever is stored -/
theorem HR.on {Z : Addr → Prop} {o : Ob} {x : V} {F' H' : Hp} {σ' : St} {env' : Env} (h : HR G Z F σ H env (.fr o) x) (c : Cond G T F H (Own σ env) F' σ' H' env') : HR G Z F' σ' H' env' (.fr o) x := by
  cases h with
  | fr h1 h2 h3 h4 h5 =>
    refine .fr ?_ (c.ext.pres _ _ h2 h4) (h3.mono c.ext.s0) (fun q => ?_) h5
    · refine Decidable.byContradiction fun z => ?_
      rcases c.ext.fresh _ z h1 with q | q
      · rw [h2] at q; cases q
      · exact h4 q
    · rcases c.ext.own _ q with z | z
      · rw [h2] at z; cases z
      · exact h4 z
theorem own_wipe {vs : List Nat} {a : Addr} (h : Own (L2.wipe σ vs) (wipeE env vs) a) : Own σ env a := by
  obtain ⟨i, b, o, h1, h2⟩ := h
  obtain ⟨q1, q2⟩ := wipe_some h1
  rw [wipeE_get, if_neg q2] at h2
  exact ⟨i, b, o, q1, h2⟩
theorem HR.frWipe {Z : Addr → Prop} {o : Ob} {x : V} (vs : List Nat) (h : HR G Z F σ H env (.fr o) x) : HR G Z F (L2.wipe σ vs) H (wipeE env vs) (.fr o) x := by
  cases h with
  | fr h1 h2 h3 h4 h5 => exact .fr h1 h2 h3 (fun q => h4 (own_wipe q)) h5
/-- a new object is written -/
theorem Cond.writeFr {a : Addr} {u : HO} (C : Cond G T F0 H0 B F σ H env) (hF : F a = none) (hn : ¬ Own σ env a) (hz : Fz H0 B a) : Cond G T F0 H0 B F σ (upd H a u) env := by
  refine ⟨⟨fun c w q => ?_, C.now.len, fun m s hm => ?_, C.now.inj, C.now.tr⟩, C.ext.s0, C.ext.fresh, fun c w q1 q2 => ?_, C.ext.own⟩
  · rw [upd_ne (ne_of_none q hF)]
    exact C.now.same c w q
  · obtain ⟨y, h1, h2⟩ := C.now.sl m s hm
    refine ⟨y, h1, ?_⟩
    cases h2 with
    | un => exact .un
    | v h => exact .v h
    | @ow c b1 o1 w k1 k2 k3 =>
      refine .ow k1 ?_ k3
      have : c ≠ a := fun q => hn ⟨m, b1, o1, by rw [← q]; exact h1, hm⟩
      rw [upd_ne this]
      exact k2
  · have : c ≠ a := fun q => by
      rw [q] at q1 q2
      rcases hz with z | z
      · rw [z] at q1; cases q1
      · exact q2 z
    rw [upd_ne this]
    exact C.ext.pres c w q1 q2
theorem Apart.symm {r r' : R} {x x' : V} (h : Apart r x r' x') : Apart r' x' r x := by
  cases r <;> cases r' <;> first
    | trivial
    | exact fun e => h e.symm
theorem own_back {F1 H1 : Hp} {e : Env} {vs : List Nat} {a : Addr} (C : Cond G T F0 H0 B F1 σ H1 env) (hD : H1 a = none) (hn : ¬ Own (L2.wipe σ vs) e a) (hl : e.length = σ.length) : ¬ Own σ (backE env e vs) a := by
  rintro ⟨i, b, o, h1, h2⟩
  rw [backE_get] at h2
  by_cases hi : i ∈ vs
  · rw [if_pos hi] at h2
    have hlt : i < σ.length := (List.getElem?_eq_some_iff.mp h1).1
    have hlt2 : i < env.length := by rw [C.now.len]; exact hlt
    have h3 : env[i]? = some env[i] := List.getElem?_eq_getElem hlt2
    rw [List.getElem?_eq_getElem (by rw [hl]; exact hlt)] at h2
    have h2 : some (env.getD i Sl.un) = some (Sl.ow b o) := h2
    rw [List.getD_eq_getElem?_getD, h3] at h2
    have h4 : env[i]? = some (Sl.ow b o) := by rw [h3]; exact h2
    obtain ⟨y, z1, z2⟩ := C.now.sl i _ h4
    rw [h1] at z1
    cases z1
    cases z2 with
    | ow k1 k2 k3 => rw [hD] at k2; cases k2
  · rw [if_neg hi] at h2
    exact hn ⟨i, b, o, by rw [wipe_get, if_neg hi]; exact h1, h2⟩
/-- where the block stands: the new list at D -/
structure LcI (G : Adr) (T : Nat → Addr → Prop) (F1 H1 : Hp) (B : Addr → Prop) (σ0 : St) (D : Addr) (Hc : Hp) (acc : List Ev.D) (e : Env) (F : Hp) : Prop where
  c : Cond G T F1 H1 B F σ0 Hc e
  r : HR G (Fz H1 B) F σ0 Hc e (.fr (.lst acc)) (.ref D)
theorem JOk.mono {ds : List Ev.D} {J : It} {F' : Hp} (h : JOk G F ds J) (s : Same F F') : JOk G F' ds J := fun F2 H2 s1 s2 i => h F2 H2 (s.trans s1) s2 i
/-- one turn of a block: as the evaluator has it, as the model wants it -/
theorem turn_red {t : Ev.T} {test : M Bool} {elt : M R} {vs : List Nat} (hvs : ∀ i ∈ slT t, i ∈ vs) {F1 H1 : Hp} {D : Addr} {Hc H' : Hp} {acc : List Ev.D} {e : Env} {F F' : Hp} {d : Ev.D} {x : V} (I : LcI G T F1 H1 B (L2.wipe σ vs) D Hc acc e F)
    (p : PPost G F Hc (.v d) x F' H') {res : Option Ev.D} {e' : Env} (ht : turn1 (fun d => asgT t (.v d)) test elt d e = some (.ok res e')) (hlen : res.isSome = true → acc.length < sizeLine) {Nx : Hp → Prop}
    (hN : ∀ F2 H2, Same F F2 → LcI G T F1 H1 B (L2.wipe σ vs) D H2 (acc ++ res.toList) (wipeE e' vs) F2 → Nx H2) :
    tG G T t x (L2.wipe σ vs) H' fun σ2 H2 => L2.wipe σ2 vs = L2.wipe σ vs ∧ tT G T W0 test σ2 H2 fun b H3 =>
      if b = true then tR G T W0 elt σ2 H3 fun y H4 => ∃ acc, H4 D = some (.lst acc) ∧ acc.length < sizeLine ∧ Nx (upd H4 D (.lst (acc ++ [y]))) else Nx H3 := by
  obtain ⟨c1, c2⟩ := p.cond I.c.now.self
  have r1 := I.r.on c1
  have C1 := Cond.trans I.c c1
  have hr : Rep G F' x d := by cases c2 with | v h => exact h
  refine ⟨F', H', Own (L2.wipe σ vs) e, F', e, .v d, c1.now.self, .v hr, ?_⟩
  unfold turn1 at ht
  rcases bnd_some ht with ⟨_, _, _, z⟩ | ⟨u, ea, q1, ht⟩
  · cases z
  have q1 : asgT t (.v d) e = some (.ok u ea) := q1
  rw [q1]
  intro F2 σ2 C2 sf2 ch2
  have hw : L2.wipe σ2 vs = L2.wipe σ vs := by
    have ch : Chg vs (L2.wipe σ vs) σ2 := ⟨ch2.1, fun i hi => ch2.2 i fun z => hi (hvs i z)⟩
    rw [ch.wipe, wipe_wipe]
  refine ⟨hw, ?_⟩
  rcases bnd_some ht with ⟨_, _, _, z⟩ | ⟨k, eb, q2, ht⟩
  · cases z
  refine ⟨F2, H', Own σ2 ea, F2, ea, C2.now.self, ?_⟩
  rw [q2]
  intro F3 H3 b C3 hk
  have hk : k = b := hk
  subst hk
  have r2 := r1.on C2
  have r3 := r2.on C3
  have CC3 := Cond.trans (Cond.trans C1 C2) C3
  cases k with
  | false =>
    have ht : ret none eb = some (.ok res e') := ht
    cases ht
    have w1 := CC3.wipe vs
    have w2 := r3.frWipe vs
    rw [hw] at w1 w2
    exact hN F3 H3 ((p.ff.trans sf2).trans C3.ext.s0) ⟨w1, by rw [show (none : Option Ev.D).toList = [] from rfl, List.append_nil]; exact w2⟩
  | true =>
    have ht : bnd elt (fun x => bnd (frz x) fun y => ret (some y)) eb = some (.ok res e') := ht
    show tR G T W0 elt σ2 H3 _
    rcases bnd_some ht with ⟨_, _, _, z⟩ | ⟨r, ec, q3, ht⟩
    · cases z
    refine ⟨F3, H3, Own σ2 eb, F3, eb, C3.now.self, ?_⟩
    rw [q3]
    intro F4 H4 v C4 hr4
    rcases bnd_some ht with ⟨_, _, _, z⟩ | ⟨y, ed, q4, ht⟩
    · cases z
    cases ht
    have r4 := r3.on C4
    have ap := (apart_of r3 hr4).symm
    obtain ⟨F5, C5, hy, sf5, keep⟩ := frz_ok C4 hr4 q4
    have r5 := keep _ _ _ r4 ap
    have CC5 := Cond.trans CC3 C5
    cases r5 with
    | fr k1 k2 k3 k4 k5 =>
      cases k3 with
      | @lst xs _ rl =>
        refine ⟨xs, k2, by rw [rl.length]; exact hlen rfl, ?_⟩
        have w1 := (CC5.writeFr (u := .lst (xs ++ [v])) k1 k4 k5).wipe vs
        have w2 : HR G (Fz H1 B) F5 σ2 (upd H4 D (.lst (xs ++ [v]))) e' (.fr (.lst (acc ++ [y]))) (.ref D) := .fr k1 upd_same (.lst (rl.append (.cons hy .nil))) k4 k5
        have w3 := w2.frWipe vs
        rw [hw] at w1 w3
        exact hN F5 _ ((((p.ff.trans sf2).trans C3.ext.s0).trans C4.ext.s0).trans sf5) ⟨w1, w3⟩
/-- a clause's loop -/
theorem loop_red {t : Ev.T} {test : M Bool} {elt : M R} {vs : List Nat} (hvs : ∀ i ∈ slT t, i ∈ vs) {F1 H1 : Hp} {Da : Addr} {Hc : Hp} {acc l : List Ev.D} {e e' : Env} {ds : List Ev.D} {J : It} (I : LcI G T F1 H1 B (L2.wipe σ vs) Da Hc acc e F) (hJ : JOk G F ds J)
    (hl : lcLoop vs (turn1 (fun d => asgT t (.v d)) test elt) ds acc e = some (.ok l e')) {P : Hp → Prop} (fin : ∀ F2 H2, LcI G T F1 H1 B (L2.wipe σ vs) Da H2 l e' F2 → P H2) :
    ∃ Wm : Nat → Nat → Hp → Prop, (∃ m, Wm 0 m Hc) ∧ ∀ i m H, Wm i m H → (J.stop i H ∧ P H) ∨ (J.go i H ∧ ∃ Nx : Hp → Prop, (∀ H', Nx H' → ∃ m', m' < m ∧ Wm (i + 1) m' H') ∧ ∀ x H', J.yld i H x H' →
      tG G T t x (L2.wipe σ vs) H' fun σ2 H2 => L2.wipe σ2 vs = L2.wipe σ vs ∧ tT G T W0 test σ2 H2 fun b H3 =>
        if b = true then tR G T W0 elt σ2 H3 fun y H4 => ∃ acc, H4 Da = some (.lst acc) ∧ acc.length < sizeLine ∧ Nx (upd H4 Da (.lst (acc ++ [y]))) else Nx H3) := by
  refine ⟨fun i m Hc => m = ds.length - i ∧ i ≤ ds.length ∧ ∃ F' acc ei, LcI G T F1 H1 B (L2.wipe σ vs) Da Hc acc ei F' ∧ Same F F' ∧ lcLoop vs (turn1 (fun d => asgT t (.v d)) test elt) (ds.drop i) acc ei = some (.ok l e'), ⟨ds.length, by simp, Nat.zero_le _, F, acc, e, I, Same.refl _, by rw [List.drop_zero]; exact hl⟩, ?_⟩
  rintro i m Hc ⟨rfl, hi, Fc, acc, ei, I, sF, hlp⟩
  obtain ⟨j1, j2⟩ := hJ Fc Hc sF I.c.now.same i
  by_cases hlt : i < ds.length
  · have hd : ds.drop i = ds[i] :: ds.drop (i + 1) := List.drop_eq_getElem_cons hlt
    rw [hd] at hlp
    obtain ⟨jg, jy⟩ := j1 hlt
    have hlp : (match turn1 (fun d => asgT t (.v d)) test elt ds[i] ei with
      | some (.ok (some x) e) => if acc.length < sizeLine then lcLoop vs (turn1 (fun d => asgT t (.v d)) test elt) (ds.drop (i + 1)) (acc ++ [x]) (wipeE e vs) else none
      | some (.ok none e) => lcLoop vs (turn1 (fun d => asgT t (.v d)) test elt) (ds.drop (i + 1)) acc (wipeE e vs)
      | _ => none) = some (.ok l e') := hlp
    refine .inr ⟨jg, ?_⟩
    cases ht : turn1 (fun d => asgT t (.v d)) test elt ds[i] ei with
    | none => rw [ht] at hlp; cases hlp
    | some o =>
      rw [ht] at hlp
      cases o with
      | ex x e' => cases hlp
      | ok res e2 =>
        have key : (res.isSome = true → acc.length < sizeLine) ∧ lcLoop vs (turn1 (fun d => asgT t (.v d)) test elt) (ds.drop (i + 1)) (acc ++ res.toList) (wipeE e2 vs) = some (.ok l e') := by
          cases res with
          | none => exact ⟨fun z => (nomatch z), by rw [show (none : Option Ev.D).toList = [] from rfl, List.append_nil]; exact hlp⟩
          | some x =>
            have hlp : (if acc.length < sizeLine then lcLoop vs (turn1 (fun d => asgT t (.v d)) test elt) (ds.drop (i + 1)) (acc ++ [x]) (wipeE e2 vs) else none) = some (.ok l e') := hlp
            split at hlp
            · rename_i q; exact ⟨fun _ => q, hlp⟩
            · cases hlp
        refine ⟨fun H2 => ∃ F2, LcI G T F1 H1 B (L2.wipe σ vs) Da H2 (acc ++ res.toList) (wipeE e2 vs) F2 ∧ Same F F2, fun H' ⟨F2, I2, s2⟩ => ⟨ds.length - (i + 1), by omega, rfl, hlt, F2, _, _, I2, s2, key.2⟩, fun x H' y => ?_⟩
        obtain ⟨d, F', hd', pp⟩ := jy x H' y
        rw [List.getElem?_eq_getElem hlt] at hd'
        cases hd'
        exact turn_red hvs I pp ht key.1 fun F2 H2 s2 I2 => ⟨F2, I2, sF.trans s2⟩
  · have he : i = ds.length := by omega
    refine .inl ⟨j2 (by omega), ?_⟩
    rw [he, List.drop_length] at hlp
    have hlp : ret acc ei = some (.ok l e') := hlp
    cases hlp
    exact fin Fc Hc I
/-- what a comprehension hands back -/
theorem lc_fin {F1 H1 : Hp} {env1 e : Env} {l : List Ev.D} {vs : List Nat} {Da : Addr} {Q : VK} {H2 F2 : Hp} (C1 : Cond G T F0 H0 B F1 σ H1 env1) (hD : H1 Da = none) (I : LcI G T F1 H1 (Own (L2.wipe σ vs) (wipeE env1 vs)) (L2.wipe σ vs) Da H2 l e F2)
    (go : Go G T W (rR G) F0 H0 B σ (some (.ok (.fr (.lst l)) (backE env1 e vs))) Q) : Q (.ref Da) H2 := by
  have b1 := Cond.back C1 I.c rfl
  have hr := I.r
  cases hr with
  | fr k1 k2 k3 k4 k5 =>
    have hlen := I.c.now.len
    rw [wipe_length] at hlen
    exact go F2 H2 (.ref Da) b1 (.fr k1 k2 k3 (own_back C1 hD k4 hlen) ((C1.wipe vs).fz k5))
/-- the whole comprehension -/
theorem lc_red {it : M (List Ev.D)} {t : Ev.T} {test : M Bool} {elt : M R} {vs : List Nat} (hvs : ∀ i ∈ slT t, i ∈ vs) {Q : VK} (h : tR G T W (lcM vs it (turn1 (fun d => asgT t (.v d)) test elt)) σ H Q) :
    tLc (tI G T W it) (tG G T t) (tT G T W0 test) (tR G T W0 elt) vs σ H Q := by
  obtain ⟨F0, H0, B, F, env, C, go⟩ := h
  unfold lcM at go
  refine tM_mono (step0 C go) fun J H1 ⟨F1, env1, ds, C1, hJ, go1⟩ => ?_
  intro Da hD
  have go1 : Go G T W (rR G) F0 H0 B σ (match lcLoop vs (turn1 (fun d => asgT t (.v d)) test elt) ds [] (wipeE env1 vs) with
    | some (.ok l e) => some (.ok (.fr (.lst l)) (backE env1 e vs))
    | _ => none) Q := go1
  cases hl : lcLoop vs (turn1 (fun d => asgT t (.v d)) test elt) ds [] (wipeE env1 vs) with
  | none => rw [hl] at go1; exact go1.elim
  | some o =>
    rw [hl] at go1
    cases o with
    | ex x e => exact go1.elim
    | ok l e =>
      have w1 := C1.wipe vs
      obtain ⟨n1, n2⟩ := (PPost.new (u := .lst []) w1.now.same hD (.lst .nil)).cond w1.now.self
      exact loop_red hvs ⟨n1, n2⟩ hJ hl fun F2 H2 I2 => lc_fin C1 hD I2 go1
theorem wipe_in {vs ws : List Nat} {σ2 : St} (h : L2.wipe σ2 ws = L2.wipe σ ws) (hs : ∀ i ∈ vs, i ∈ ws) : L2.wipe (L2.wipe σ2 vs) ws = L2.wipe σ ws := by
  have ch : Chg ws σ2 (L2.wipe σ2 vs) := ⟨wipe_length _ _, fun i hi => by rw [wipe_get, if_neg fun z => hi (hs i z)]⟩
  rw [← h, ch.wipe]
/-- two clauses -/
theorem lc2_red {it it1 : M (List Ev.D)} {t t1 : Ev.T} {test test1 : M Bool} {elt : M R} {vs vs1 : List Nat} (hvs : ∀ i ∈ slT t, i ∈ vs) (hvs1 : ∀ i ∈ slT t1, i ∈ vs1) (hin : ∀ i ∈ vs1, i ∈ vs) {Q : VK}
    (h : tR G T W (lc2M vs it (turn2 vs1 (fun d => asgT t (.v d)) test it1 (turn1 (fun d => asgT t1 (.v d)) test1 elt))) σ H Q) :
    tLc2 (tI G T W it) (tG G T t) (tT G T W0 test) (tI G T W0 it1) (tG G T t1) (tT G T W0 test1) (tR G T W0 elt) vs vs1 σ H Q := by
  obtain ⟨F0, H0, B, F, env, C, go⟩ := h
  unfold lc2M at go
  refine tM_mono (step0 C go) fun J H1 ⟨F1, env1, ds, C1, hJ, go1⟩ => ?_
  intro Da hD
  generalize htn : turn2 vs1 (fun d => asgT t (.v d)) test it1 (turn1 (fun d => asgT t1 (.v d)) test1 elt) = tn at go1
  have go1 : Go G T W (rR G) F0 H0 B σ (match lc2Loop vs tn ds [] (wipeE env1 vs) with
    | some (.ok l e) => some (.ok (.fr (.lst l)) (backE env1 e vs))
    | _ => none) Q := go1
  cases hl : lc2Loop vs tn ds [] (wipeE env1 vs) with
  | none => rw [hl] at go1; exact go1.elim
  | some o =>
    rw [hl] at go1
    cases o with
    | ex x e => exact go1.elim
    | ok l e =>
      have w1 := C1.wipe vs
      obtain ⟨n1, n2⟩ := (PPost.new (u := .lst []) w1.now.same hD (.lst .nil)).cond w1.now.self
      refine ⟨fun i m Hc => m = ds.length - i ∧ i ≤ ds.length ∧ ∃ F' acc ei, LcI G T F1 H1 (Own (L2.wipe σ vs) (wipeE env1 vs)) (L2.wipe σ vs) Da Hc acc ei F' ∧ Same F1 F' ∧ lc2Loop vs tn (ds.drop i) acc ei = some (.ok l e), ⟨ds.length, by simp, Nat.zero_le _, F1, [], _, ⟨n1, n2⟩, Same.refl _, by rw [List.drop_zero]; exact hl⟩, ?_⟩
      rintro i m Hc ⟨rfl, hi, Fc, acc, ei, I, sF, hlp⟩
      obtain ⟨j1, j2⟩ := hJ Fc Hc sF I.c.now.same i
      by_cases hlt : i < ds.length
      · have hd : ds.drop i = ds[i] :: ds.drop (i + 1) := List.drop_eq_getElem_cons hlt
        rw [hd] at hlp
        obtain ⟨jg, jy⟩ := j1 hlt
        have hlp : (match tn ds[i] acc ei with
          | some (.ok acc' e) => lc2Loop vs tn (ds.drop (i + 1)) acc' (wipeE e vs)
          | _ => none) = some (.ok l e) := hlp
        refine .inr ⟨jg, ?_⟩
        cases ht : tn ds[i] acc ei with
        | none => rw [ht] at hlp; cases hlp
        | some o =>
          rw [ht] at hlp
          cases o with
          | ex x e' => cases hlp
          | ok acc' e2 =>
            have hlp : lc2Loop vs tn (ds.drop (i + 1)) acc' (wipeE e2 vs) = some (.ok l e) := hlp
            refine ⟨fun H2 => ∃ F2, LcI G T F1 H1 (Own (L2.wipe σ vs) (wipeE env1 vs)) (L2.wipe σ vs) Da H2 acc' (wipeE e2 vs) F2 ∧ Same F1 F2, fun H' ⟨F2, I2, s2⟩ => ⟨ds.length - (i + 1), by omega, rfl, hlt, F2, _, _, I2, s2, hlp⟩, fun x H' y => ?_⟩
            obtain ⟨d, F', hd', p⟩ := jy x H' y
            rw [List.getElem?_eq_getElem hlt] at hd'
            cases hd'
            rw [← htn] at ht
            -- the first clause's turn
            obtain ⟨c1, c2⟩ := p.cond I.c.now.self
            have r1 := I.r.on c1
            have CC1 := Cond.trans I.c c1
            have hr : Rep G F' x ds[i] := by cases c2 with | v h => exact h
            refine ⟨F', H', Own (L2.wipe σ vs) ei, F', ei, .v ds[i], c1.now.self, .v hr, ?_⟩
            unfold turn2 at ht
            rcases bnd_some ht with ⟨_, _, _, z⟩ | ⟨u, ea, q1, ht⟩
            · cases z
            have q1 : asgT t (.v ds[i]) ei = some (.ok u ea) := q1
            rw [q1]
            intro F2 σ2 C2 sf2 ch2
            have hw : L2.wipe σ2 vs = L2.wipe σ vs := by
              have ch : Chg vs (L2.wipe σ vs) σ2 := ⟨ch2.1, fun i hi => ch2.2 i fun z => hi (hvs i z)⟩
              rw [ch.wipe, wipe_wipe]
            refine ⟨hw, ?_⟩
            rcases bnd_some ht with ⟨_, _, _, z⟩ | ⟨k, eb, q2, ht⟩
            · cases z
            refine ⟨F2, H', Own σ2 ea, F2, ea, C2.now.self, ?_⟩
            rw [q2]
            intro F3 H3 b C3 hk
            have hk : k = b := hk
            subst hk
            have r2 := r1.on C2
            have r3 := r2.on C3
            have CC3 := Cond.trans (Cond.trans CC1 C2) C3
            cases k with
            | false =>
              have ht : ret acc eb = some (.ok acc' e2) := ht
              cases ht
              have w1 := CC3.wipe vs
              have w2 := r3.frWipe vs
              rw [hw] at w1 w2
              exact ⟨F3, ⟨w1, w2⟩, ((sF.trans p.ff).trans sf2).trans C3.ext.s0⟩
            | true =>
              have ht : bnd it1 (fun ds1 env1 => lcLoop vs1 (turn1 (fun d => asgT t1 (.v d)) test1 elt) ds1 acc (wipeE env1 vs1)) eb = some (.ok acc' e2) := ht
              show tI G T W0 it1 σ2 H3 _
              rcases bnd_some ht with ⟨_, _, _, z⟩ | ⟨ds1, ec, q3, ht⟩
              · cases z
              refine ⟨F3, H3, Own σ2 eb, F3, eb, C3.now.self, ?_⟩
              rw [q3]
              intro F4 H4 J1 C4 hJ1
              have CC4 := Cond.trans CC3 C4
              have r4 := r3.on C4
              refine loop_red (σ := σ2) hvs1 ⟨CC4.wipe vs1, r4.frWipe vs1⟩ hJ1 ht fun F5 H5 I5 => ?_
              have w1 := I5.c.wipe vs
              have w2 := I5.r.frWipe vs
              rw [wipe_in hw hin] at w1 w2
              exact ⟨F5, ⟨w1, w2⟩, w1.ext.s0⟩
      · have he : i = ds.length := by omega
        refine .inl ⟨j2 (by omega), ?_⟩
        rw [he, List.drop_length] at hlp
        have hlp : ret acc ei = some (.ok l e) := hlp
        cases hlp
        exact lc_fin C1 hD I go1
end
end Ev

set_option Elab.async false
set_option linter.all false
set_option maxRecDepth 100000
set_option maxHeartbeats 1000000
/-! Displays of dicts. -/
namespace Ev
open PySem PySem.Spec L2
open PyProof.Rows hiding St
section
variable {G : Adr} {nm : Nm} {tb : Tab} {cf : CF} {k : Nat} {S : SC} {X : Cx} {T : Nat → Addr → Prop} {W : WX} {F0 H0 F H : Hp} {B : Addr → Prop} {σ : St} {env : Env}
theorem frzL_keep : ∀ {rs : List R} {xs : List V} {F : Hp} {env env' : Env} {ds : List D} {Z : Addr → Prop} {r' : R} {x' : V}, Cond G T F0 H0 B F σ H env → HRs G (Fz H0 B) F σ H env rs xs → HR G Z F σ H env r' x' → Aparts r' x' rs xs → frzL rs env = some (.ok ds env') →
    ∃ F', Cond G T F0 H0 B F' σ H env' ∧ Same F F' ∧ RepL G F' xs ds ∧ HR G Z F' σ H env' r' x'
  | [], _, F, env, env', ds, Z, r', x', C, .nil, hr, _, e => by cases e; exact ⟨F, C, Same.refl _, .nil, hr⟩
  | r :: rs, _, F, env, env', ds, Z, r', x', C, .cons (x := x) (xs := xs) h ap t, hr, ap', e => by
    rcases bnd_some (show bnd (frz r) (fun d => bnd (frzL rs) fun ds => ret (d :: ds)) env = some (.ok ds env') from e) with ⟨_, _, _, z⟩ | ⟨d, e1, q, e⟩
    · cases z
    · obtain ⟨F1, C1, h1, sf, l⟩ := frz_ok C h q
      have t1 := frz_oks (d := d) l t ap
      have hr1 := l _ _ _ hr ap'.1.symm
      rcases bnd_some e with ⟨_, _, _, z⟩ | ⟨ds', e2, q1, q2⟩
      · cases z
      · cases q2
        obtain ⟨F2, C2, sf2, r2, hr2⟩ := frzL_keep C1 t1 hr1 ap'.2 q1
        exact ⟨F2, C2, sf.trans sf2, .cons (h1.mono sf2) r2, hr2⟩
theorem RepK.append : ∀ {a b : List (Key × V)} {c d : List (Key × D)}, RepK G F a c → RepK G F b d → RepK G F (a ++ b) (c ++ d)
  | _, _, _, _, .nil, h => h
  | _, _, _, _, .cons h t, h2 => .cons h (t.append h2)
theorem RepK.any {k : Key} : ∀ {a : List (Key × V)} {c : List (Key × D)}, RepK G F a c → (a.any fun kv => decide (kv.1 = k)) = (c.any fun kv => decide (kv.1 = k))
  | _, _, .nil => rfl
  | _, _, .cons _ t => by rw [List.any_cons, List.any_cons, t.any]
theorem RepK.map {k : Key} {v : V} {d : D} (h : Rep G F v d) : ∀ {a : List (Key × V)} {c : List (Key × D)}, RepK G F a c → RepK G F (a.map fun kv => if kv.1 = k then (kv.1, v) else kv) (c.map fun kv => if kv.1 = k then (kv.1, d) else kv)
  | _, _, .nil => .nil
  | _, _, .cons (k := k') h1 t => by
    rw [List.map_cons, List.map_cons]
    by_cases e : k' = k
    · simp only [e, if_true]
      exact .cons h (t.map h)
    · simp only [e, if_false]
      exact .cons h1 (t.map h)
theorem RepK.put {a : List (Key × V)} {c : List (Key × D)} {k : Key} {v : V} {d : D} (r : RepK G F a c) (h : Rep G F v d) : RepK G F (putK a k v) (putKD c k d) := by
  unfold putK putKD
  rw [r.any]
  split
  · exact r.map h
  · exact r.append (.cons h .nil)
theorem RepK.merge : ∀ {ks : List Key} {xs : List V} {ds : List D} {a : List (Key × V)} {c : List (Key × D)}, RepK G F a c → RepL G F xs ds → RepK G F (mergeK a (ks.zip xs)) ((ks.zip ds).foldl (fun acc kv => putKD acc kv.1 kv.2) c)
  | [], _, _, _, _, r, _ => r
  | _ :: _, _, _, _, _, r, .nil => r
  | k :: ks, _, _, _, _, r, .cons h t => (r.put h).merge t
def trsOf (G : Adr) (T : Nat → Addr → Prop) (W : WX) (tb : Tab) (cf : CF) : List Key → Es → List (TE × TE)
  | k :: ks, .cons e es => (tC (kV k), tR G T W (ev tb cf e).1) :: trsOf G T W tb cf ks es
  | _, _ => []
theorem ret_bnd {α β : Type} {a : α} {f : α → M β} : bnd (ret a) f = f a := rfl
/-- one part, with the step itself -/
theorem stepC {α β γ δ : Type} {R' : Rl α γ} {R : Rl β δ} {m : M α} {f : α → M β} {P : Hd} {Q : δ → Hp → Prop} (st : Stable G T P) (C : Cond G T F0 H0 B F σ H env) (h : P F σ H env) (g : Go G T W R F0 H0 B σ (bnd m f env) Q) :
    tM G T W R' m σ H (fun c H1 => ∃ F1 env1 a, Cond G T F H (Own σ env) F1 σ H1 env1 ∧ P F1 σ H1 env1 ∧ R' (Fz H (Own σ env)) F1 σ H1 env1 a c ∧ Go G T W R F0 H0 B σ (f a env1) Q) := by
  refine ⟨F, H, Own σ env, F, env, C.now.self, ?_⟩
  unfold bnd at g
  cases e : m env with
  | none => rw [e] at g; exact g
  | some o =>
    rw [e] at g
    cases o with
    | ex x e' => exact fun F' H' cls d c xr => g F' H' cls d (C.trans c) xr
    | ok a e' => exact fun F' H' v c r => ⟨F', e', a, c, st _ _ _ _ _ _ _ h C.now c, r, g⟩
/-- the values, one behind another; P is held -/
theorem pairs_red {P : Hd} (st : Stable G T P) {δ : Type} {R' : Rl R δ} : ∀ (es : Es) {ks : List Key} {F : Hp} {H : Hp} {env : Env} {f : List R → M R} {Q : δ → Hp → Prop} {Q' : List (V × V) → Hp → Prop}, ks.length = es.len → Cond G T F0 H0 B F σ H env → P F σ H env → Go G T W R' F0 H0 B σ (bnd (evL tb cf es) f env) Q →
    (∀ F2 H2 env2 rs xs, Cond G T F H (Own σ env) F2 σ H2 env2 → P F2 σ H2 env2 → HRs G (Fz H (Own σ env)) F2 σ H2 env2 rs xs → xs.length = ks.length → Go G T W R' F0 H0 B σ (f rs env2) Q → Q' ((ks.zip xs).map fun kv => (kV kv.1, kv.2)) H2) → tPairs (trsOf G T W tb cf ks es) σ H Q'
  | .nil, [], F, H, env, f, Q, Q', _, C, hP, go, fin => fin F H env [] [] C.now.self hP .nil rfl go
  | .nil, _ :: _, F, H, env, f, Q, Q', hl, _, _, _, _ => by cases hl
  | .cons e es, [], F, H, env, f, Q, Q', hl, _, _, _, _ => by cases hl
  | .cons e es, k :: ks, F, H, env, f, Q, Q', hl, C, hP, go, fin => by
    have go : Go G T W R' F0 H0 B σ (bnd (bnd (ev tb cf e).1 fun x => bnd (evL tb cf es) fun xs => ret (x :: xs)) f env) Q := go
    rw [bnd_assoc] at go
    show tR G T W (ev tb cf e).1 σ H _
    refine tM_mono (stepC st C hP go) fun x H1 ⟨F1, env1, r, C1, hP1, h1, go1⟩ => ?_
    rw [bnd_assoc] at go1
    have go2 : Go G T W R' F0 H0 B σ (bnd (evL tb cf es) (fun xs => f (r :: xs)) env1) Q := go1
    refine pairs_red (P := fun F' σ' H' env' => P F' σ' H' env' ∧ HR G (Fz H (Own σ env)) F' σ' H' env' r x) (st.and (HR.stable _ _ _)) es (Nat.succ.inj hl) (C.trans C1) ⟨hP1, h1⟩ go2 fun F2 H2 env2 rs xs C2 hP2 hr2 hl2 go3 => ?_
    exact fin F2 H2 env2 (r :: rs) (x :: xs) (C1.trans C2) hP2.1 (.cons hP2.2 (aparts_of h1 hr2) (hr2.mono fun a => C1.fz)) (by rw [List.length_cons, List.length_cons, hl2]) go3
theorem dct_red {ks : List Key} {es : Es} {Q : VK} (hl : ks.length = es.len) (h15 : ks.length ≤ 15) (h : tR G T W (bnd (evL tb cf es) fun rs => bnd (frzL rs) fun ds => dctP ks ds) σ H Q) : tDisp (trsOf G T W tb cf ks es) σ H Q := by
  obtain ⟨F0, H0, B, F, env, C, go⟩ := h
  intro p hp
  obtain ⟨c1, c2⟩ := (PPost.new (u := .dK []) C.now.same hp (.dct .nil)).cond C
  refine pairs_red (P := fun F σ H env => HR G (Fz H0 B) F σ H env (.fr (.dct [])) (.ref p)) (HR.stable _ _ _) es hl c1 c2 go fun F2 H2 env2 rs xs C2 hp2 hr2 hl2 go2 => ?_
  have C2' := Cond.trans c1 C2
  have hrs := hr2.mono fun a => c1.fz
  have ap := aparts_of c2 hr2
  obtain ⟨ds, e3, q3, go3⟩ := go_bnd go2 fun x e => frzL_noex x e
  obtain ⟨F3, C3, sf, rl, hp3⟩ := frzL_keep C2' hrs hp2 ap q3
  unfold dctP at go3
  split at go3
  · rename_i hd
    cases hp3 with
    | fr k1 k2 k3 k4 k5 =>
      cases k3 with
      | dct r =>
        cases r
        refine ⟨k2, ks.zip xs, rfl, by rw [List.length_zip, hl2]; omega, ?_⟩
        have cw := C3.writeFr (u := .dK (mergeK [] (ks.zip xs))) k1 k4 k5
        exact go_ret (R := rR G) cw (.fr k1 upd_same (.dct (RepK.merge .nil rl)) k4 k5) go3
  · exact go3.elim
theorem RepK.length : ∀ {xs : List (Key × V)} {l : List (Key × D)}, RepK G F xs l → xs.length = l.length
  | _, _, .nil => rfl
  | _, _, .cons _ t => by rw [List.length_cons, List.length_cons, t.length]
theorem dct0_red {Q : VK} (h : tR G T W (ret (.fr (.dct []))) σ H Q) : tDNewK σ H Q := by
  obtain ⟨F0, H0, B, F, env, C, go⟩ := h
  intro p hp
  obtain ⟨c1, c2⟩ := (PPost.new (o := .dct []) (u := .dK []) C.now.same hp (.dct .nil)).cond C
  exact go_ret (R := rR G) c1 c2 go
theorem dic0_red {Q : VK} (h : tR G T W (ret (.fr (.dic []))) σ H Q) : tDNewN G σ H Q := by
  obtain ⟨F0, H0, B, F, env, C, go⟩ := h
  intro p hp hs
  obtain ⟨c1, c2⟩ := (PPost.new (o := .dic []) (u := DicO G.w p []) C.now.same hp (.dic hs (Nat.zero_le _) List.nodup_nil .nil)).cond C
  exact go_ret (R := rR G) c1 c2 go
theorem dic1_red {mk mv : M R} {Q : VK} (h : tR G T W (bnd mk fun x => bnd mv fun y => bnd (frz y) fun d env => match cont env x with
    | some c => dic1P c d env
    | none => none) σ H Q) : tDic1 G (tR G T W mk) (tR G T W mv) σ H Q := by
  obtain ⟨F0, H0, B, F, env, C, go⟩ := h
  intro p hp hs
  obtain ⟨c1, c2⟩ := (PPost.new (o := .dic []) (u := DicO G.w p []) C.now.same hp (.dic hs (Nat.zero_le _) List.nodup_nil .nil)).cond C
  show tR G T W mk σ (upd H p (DicO G.w p [])) _
  refine tM_mono (stepC (P := fun F σ H env => HR G (Fz H0 B) F σ H env (.fr (.dic [])) (.ref p)) (HR.stable _ _ _) c1 c2 go) fun x H1 ⟨F1, env1, r, C1, hp1, h1, go1⟩ => ?_
  have C1' := c1.trans C1
  show tR G T W mv σ H1 _
  refine tM_mono (stepC (P := fun F' σ' H' env' => HR G (Fz H0 B) F' σ' H' env' (.fr (.dic [])) (.ref p) ∧ HR G (Fz (upd H p (DicO G.w p [])) (Own σ env)) F' σ' H' env' r x) ((HR.stable _ _ _).and (HR.stable _ _ _)) C1' ⟨hp1, h1⟩ go1) fun y H2 ⟨F2, env2, ry, C2, hpx, hy, go2⟩ => ?_
  have C2' := C1'.trans C2
  obtain ⟨d, e3, q3, go3⟩ := go_bnd go2 fun x e => frz_noex _ _ x e
  obtain ⟨F3, C3, hd, sf, l⟩ := frz_ok C2' (hy.mono fun a => C1'.fz) q3
  have hp3 := l _ _ _ hpx.1 (apart_of hp1 hy).symm
  have hx3 := l _ _ _ hpx.2 (apart_of h1 hy).symm
  cases q4 : cont e3 r with
  | none =>
    have go3 : Go G T W (rR G) F0 H0 B σ (match cont e3 r with
      | some c => dic1P c d e3
      | none => none) Q := go3
    rw [q4] at go3; exact go3.elim
  | some c =>
    have go3 : Go G T W (rR G) F0 H0 B σ (match cont e3 r with
      | some c => dic1P c d e3
      | none => none) Q := go3
    rw [q4] at go3
    have go3 : Go G T W (rR G) F0 H0 B σ ((match keyN c with
      | some k => (ret (R.fr (.dic [(k, d)])) : M R)
      | none => stuck) e3) Q := go3
    cases q5 : keyN c with
    | none => rw [q5] at go3; exact go3.elim
    | some k =>
      rw [q5] at go3
      have go3 : Go G T W (rR G) F0 H0 B σ (ret (R.fr (.dic [(k, d)])) e3) Q := go3
      have kx := keyN_rep (hx3.cont C3.now q4) q5
      cases hp3 with
      | fr k1 k2 k3 k4 k5 =>
        cases k3 with
        | dic a1 a2 a3 r0 =>
          cases r0
          refine ⟨x, y, rfl, k2, F3, c, k, d, C3.now.same, kx, q5, hd, fun xs rn => ?_⟩
          have cw := C3.writeFr (u := DicO G.w p xs) k1 k4 k5
          have hr : HR G (Fz H0 B) F3 σ (upd H2 p (DicO G.w p xs)) e3 (.fr (.dic [(k, d)])) (.ref p) := .fr k1 upd_same (.dic a1 (by rw [sizeLine_eq]; simp) (by simp) rn) k4 k5
          exact go_ret (R := rR G) cw hr go3
end
end Ev

set_option Elab.async false
set_option linter.all false
set_option maxRecDepth 100000
set_option maxHeartbeats 2000000
/-! The expressions. -/
namespace Ev
open PySem PySem.Spec L2
open PyProof.Rows hiding St
section
variable {G : Adr} {nm : Nm} {tb : Tab} {cf : CF} {k : Nat} {S : SC} {X : Cx} {T : Nat → Addr → Prop} {W : WX} {F0 H0 F H : Hp} {B : Addr → Prop} {σ : St} {env : Env}
theorem P2.mono {f : D → D → Option PR} {x y : V} {Q Q' : VK} (h : P2 G f x y H Q) (q : ∀ v H', Q v H' → Q' v H') : P2 G f x y H Q' := by
  obtain ⟨F, c, d, pr, h1, h2, h3, h4, h5⟩ := h
  exact ⟨F, c, d, pr, h1, h2, h3, h4, fun v F' H' p => q _ _ (h5 v F' H' p)⟩
section
variable {a b c : Expr} {ma mb mc : M R} {pos : Pos}
theorem e_cmp (g : Good G nm tb cf k S X) {op : CmpOp} (ha : PE X a (tR G T W ma)) (hb : PE X b (tR G T W mb)) (hm : behindInMarks op b = false) : PE X (.Compare a [op] [b] pos) (tR G T W (bnd ma fun x => bnd mb fun y => twoP (fun c d => vP .bl (cmpD op c d)) x y)) :=
  e_two (pe_cmpR (op_cmpD g.hK g.hw g.hu op) ha hb hm)
theorem t_cmp (g : Good G nm tb cf k S X) {op : CmpOp} (ha : PE X a (tR G T W ma)) (hb : PE X b (tR G T W mb)) (hm : behindInMarks op b = false) : PT X (.Compare a [op] [b] pos) (tT G T W (tst (bnd ma fun x => bnd mb fun y => twoP (fun c d => vP .bl (cmpD op c d)) x y))) := by
  refine pt_mono (pt_cmpR (op_cmpD g.hK g.hw g.hu op) ha hb hm) fun σ H Q ⟨F0, H0, B, F, env, C, go⟩ => ?_
  unfold tst at go
  rw [bnd_assoc] at go
  refine tM_mono (step0 C go) fun x H1 ⟨F1, env1, a, C1, h1, go1⟩ => ?_
  rw [bnd_assoc] at go1
  refine tM_mono (step (HR.stable _ _ _) C1 h1 go1) fun y H2 ⟨F2, env2, b, C2, h1', h2, go2⟩ => ?_
  exact (go_twoB C2 h1' h2 go2).mono fun v H' ⟨k, F3, env3, e, C3, _, go3⟩ => ⟨k, e, t_bl C3 go3⟩
theorem e_chain (g : Good G nm tb cf k S X) {op op' : CmpOp} (ha : PE X a (tR G T W ma)) (hb : PE X b (tR G T W mb)) (hc : PE X c (tR G T W mc)) (hm : lastMarks [op, op'] [b, c] = false) : PE X (.Compare a [op, op'] [b, c] pos)
    (tR G T W (bnd ma fun x => bnd mb fun y => bnd (bnd (twoP (fun c d => vP .bl (cmpD op c d)) x y) isBl) fun k => if k then bnd mc fun z => twoP (fun c d => vP .bl (cmpD op' c d)) y z else ret (.v (.bl false)))) := by
  refine pe_mono (pe_chain (op_cmpD g.hK g.hw g.hu op) (op_cmpD g.hK g.hw g.hu op') ha hb hc hm) fun σ H Q ⟨F0, H0, B, F, env, C, go⟩ => ?_
  refine tM_mono (step0 C go) fun x H1 ⟨F1, env1, a, C1, h1, go1⟩ => ?_
  refine tM_mono (step (HR.stable _ _ _) C1 h1 go1) fun y H2 ⟨F2, env2, b, C2, h1', h2, go2⟩ => ?_
  rw [bnd_assoc] at go2
  refine (go_twoB C2 h1' h2 go2).mono fun v H' ⟨k, F3, env3, e, C3, keep, go3⟩ => ⟨k, e, ?_⟩
  rw [isBl_bl] at go3
  cases k with
  | false => exact go_ret (R := rR G) C3 (.v (.bl false)) go3
  | true =>
    have go3 : Go G T W (rR G) F0 H0 B σ (bnd mc (fun z => twoP (fun c d => vP .bl (cmpD op' c d)) b z) env3) Q := go3
    exact tM_mono (step (HR.stable _ _ _) C3 (keep h2) go3) fun z H4 ⟨F4, env4, c, C4, h2', h3, go4⟩ => go_two C4 h2' h3 go4
theorem t_chain (g : Good G nm tb cf k S X) {op op' : CmpOp} (ha : PE X a (tR G T W ma)) (hb : PE X b (tR G T W mb)) (hc : PE X c (tR G T W mc)) (hm : lastMarks [op, op'] [b, c] = false) : PT X (.Compare a [op, op'] [b, c] pos)
    (tT G T W (tst (bnd ma fun x => bnd mb fun y => bnd (bnd (twoP (fun c d => vP .bl (cmpD op c d)) x y) isBl) fun k => if k then bnd mc fun z => twoP (fun c d => vP .bl (cmpD op' c d)) y z else ret (.v (.bl false))))) := by
  refine pt_mono (pt_chain (op_cmpD g.hK g.hw g.hu op) (op_cmpD g.hK g.hw g.hu op') ha hb hc hm) fun σ H Q ⟨F0, H0, B, F, env, C, go⟩ => ?_
  unfold tst at go
  rw [bnd_assoc] at go
  refine tM_mono (step0 C go) fun x H1 ⟨F1, env1, a, C1, h1, go1⟩ => ?_
  rw [bnd_assoc] at go1
  refine tM_mono (step (HR.stable _ _ _) C1 h1 go1) fun y H2 ⟨F2, env2, b, C2, h1', h2, go2⟩ => ?_
  rw [bnd_assoc, bnd_assoc] at go2
  refine (go_twoB C2 h1' h2 go2).mono fun v H' ⟨k, F3, env3, e, C3, keep, go3⟩ => ⟨k, e, ?_⟩
  rw [isBl_bl] at go3
  cases k with
  | false => exact ⟨false, rfl, t_bl C3 go3⟩
  | true =>
    have go3 : Go G T W rB F0 H0 B σ (bnd (bnd mc fun z => twoP (fun c d => vP .bl (cmpD op' c d)) b z) (fun x env => match (cont env x).bind truthD with
      | some k => some (.ok k env)
      | none => none) env3) Q := go3
    rw [bnd_assoc] at go3
    exact tM_mono (step (HR.stable _ _ _) C3 (keep h2) go3) fun z H4 ⟨F4, env4, c, C4, h2', h3, go4⟩ => (go_twoB C4 h2' h3 go4).mono fun v H' ⟨k, F5, env5, e, C5, _, go5⟩ => ⟨k, e, t_bl C5 go5⟩
end
theorem own_snd (S : SC) (own : List Nat) : (ownP S own).map (·.2) = own := by
  unfold ownP
  rw [List.map_map]
  exact List.map_id own
theorem sub_of {l own : List Nat} (h : (l.all fun i => own.contains i) = true) : ∀ i ∈ l, i ∈ own := fun i hi => by
  have := List.all_eq_true.mp h i hi
  exact List.contains_iff_mem.mp this
theorem fold_of {nm : Nm} {i : I} {S : SC} {tg it : Expr} (h : chkI nm i S tg it = true) (env : PySem.Env) : ∀ x, foldedSetIterable it env x = pure x := by
  intro x
  cases it <;> first
    | rfl
    | (cases i with
      | sq e => exact (chk_set (show chkE nm e S _ = true from h)).elim
      | _ => cases tg <;> cases h)
theorem call_no {x : Expr} (h : (match x with
    | .Call _ _ _ _ => false
    | _ => true) = true) : ∀ a b c d, x ≠ .Call a b c d := fun a b c d e => by subst e; cases h
theorem attr_no {x : Expr} (h : (match x with
    | .Attribute _ _ _ => false
    | _ => true) = true) : ∀ a b c, x ≠ .Attribute a b c := fun a b c e => by subst e; cases h
theorem and1 {a b : Bool} (h : (a && b) = true) : a = true ∧ b = true := Bool.and_eq_true_iff.mp h
theorem yes_red {n : M Bool} {Q : Bool → Hp → Prop} (hn : n = tst (ret (.v (.bl true)))) (h : tT G T W n σ H Q) : tYes σ H Q := by
  obtain ⟨F0, H0, B, F, env, C, go⟩ := h
  subst hn
  exact go F H true C rfl
theorem isTr_ev {c : E} (h : isTr c = true) : (ev tb cf c).2 = tst (ret (.v (.bl true))) := by
  cases c <;> first
    | (cases h; done)
    | skip
  rename_i b
  cases b with
  | true => rfl
  | false => cases h
theorem pts_mono {ifs : List Expr} {t t' : TT} (h : PTs X ifs t) (m : ∀ σ H Q, t' σ H Q → t σ H Q) : PTs X ifs t' := ⟨fun pins s σ H Q I hw => h.run pins s σ H Q I (m σ H Q hw)⟩
theorem few_of {n : Nat} (h : decide (n < 29) = true) : n < 29 := of_decide_eq_true h
theorem ne_of_empty {es : List Expr} (h : (!es.isEmpty) = true) : es ≠ [] := fun e => by subst e; cases h
theorem chkKs_len : ∀ {ks : List Key} {xs : List (Option Expr)}, chkKs ks xs = true → ks.length = xs.length ∧ xs.all (·.isSome) = true
  | [], [], _ => ⟨rfl, rfl⟩
  | [], _ :: _, h => by cases h
  | k :: ks, [], h => by cases k <;> cases h
  | k :: ks, x :: xs, h => by
    have key : ∃ e, x = some e ∧ chkKs ks xs = true := by
      cases x with
      | none => cases k <;> cases h
      | some e =>
        cases e with
        | Constant c kk p =>
          cases k with
          | inl i =>
            cases c with
            | int j => exact ⟨_, rfl, (and1 (show (decide (i = j) && chkKs ks xs) = true from h)).2⟩
            | _ => cases h
          | inr s =>
            cases c with
            | str t => exact ⟨_, rfl, (and1 (show (decide (s = t) && chkKs ks xs) = true from h)).2⟩
            | _ => cases h
        | _ => cases k <;> cases h
    obtain ⟨e, rfl, h2⟩ := key
    obtain ⟨l1, l2⟩ := chkKs_len h2
    exact ⟨by rw [List.length_cons, List.length_cons, l1], by rw [List.all_cons, l2]; rfl⟩
theorem chkL_len {nm : Nm} : ∀ {es : Es} {S : SC} {xs : List Expr}, chkL nm es S xs = true → xs.length = es.len
  | .nil, S, [], _ => rfl
  | .nil, S, _ :: _, h => by cases h
  | .cons e es, S, [], h => by cases h
  | .cons e es, S, x :: xs, h => by
    rw [List.length_cons, chkL_len (and1 (show (chkE nm e S x && chkL nm es S xs) = true from h)).2]; rfl
mutual
theorem sE : ∀ (e : E) {S : SC} {X : Cx} {W : WX} {x : Expr}, Good G nm tb cf k S X → Takes X W → chkE nm e S x = true → PE X x (tR G T W (ev tb cf e).1) ∧ PT X x (tT G T W (ev tb cf e).2)
  | .var i, S, X, W, x, g, tk, h => by
    cases x with
    | Name n p =>
      obtain ⟨h1, h⟩ := and1 (show (decide (S.N[i]? = some n) && (visB S n && plainB n)) = true from h)
      obtain ⟨h2, h3⟩ := and1 h
      have q : PE X (.Name n p) (tR G T W (ev tb cf (.var i)).1) := e_var g (of_decide_eq_true h1) h2 h3
      exact ⟨q, t_both g.hK q fun _ => rfl⟩
    | _ => cases h
  | .cst i, S, X, W, x, g, tk, h => by
    cases x with
    | Name n p =>
      obtain ⟨h1, h⟩ := and1 (show (decide (nm.cst[i]? = some n) && (glB S n && plainB n)) = true from h)
      obtain ⟨h2, h3⟩ := and1 h
      obtain ⟨u, v, q1, q2, q3⟩ := g.glo.cst i n (of_decide_eq_true h1)
      have q : PE X (.Name n p) (tR G T W (ev tb cf (.cst i)).1) := e_const (pe_glob (g.gl h2) q1 q2 (plain_db h3).1) q3
      exact ⟨q, t_both g.hK q fun _ => rfl⟩
    | _ => cases h
  | .fn f, S, X, W, x, g, tk, h => by
    cases x with
    | Name n p =>
      obtain ⟨h1, h⟩ := and1 (show (decide (nm.fn[f]? = some n) && (glB S n && plainB n)) = true from h)
      obtain ⟨h2, h3⟩ := and1 h
      obtain ⟨q1, q2⟩ := g.glo.fn f n (of_decide_eq_true h1)
      have q : PE X (.Name n p) (tR G T W (ev tb cf (.fn f)).1) := e_const (pe_glob (v := .ref (G.fn f)) (g.gl h2) q1 rfl (plain_db h3).1) fun F => .fn f
      exact ⟨q, t_both g.hK q fun _ => rfl⟩
    | _ => cases h
  | .non, S, X, W, x, g, tk, h => by
    cases x with
    | Constant c kk p =>
      cases c with
      | none =>
        have q : PE X (.Constant .none kk p) (tR G T W (ev tb cf .non).1) := e_const pe_non fun F => .non
        exact ⟨q, t_both g.hK q fun _ => rfl⟩
      | _ => cases h
    | _ => cases h
  | .bl b, S, X, W, x, g, tk, h => by
    cases x with
    | Constant c kk p =>
      cases c with
      | bool b' =>
        have h : (b == b') = true := h
        have e := eq_of_beq h
        subst e
        have q : PE X (.Constant (.bool b) kk p) (tR G T W (ev tb cf (.bl b)).1) := e_const pe_bl fun F => .bl b
        exact ⟨q, t_both g.hK q fun _ => rfl⟩
      | _ => cases h
    | _ => cases h
  | .int i, S, X, W, x, g, tk, h => by
    cases x with
    | Constant c kk p =>
      cases c with
      | int j =>
        have e : i = j := of_decide_eq_true h
        subst e
        have q : PE X (.Constant (.int i) kk p) (tR G T W (ev tb cf (.int i)).1) := e_const pe_int fun F => .int i
        exact ⟨q, t_both g.hK q fun _ => rfl⟩
      | _ => cases h
    | _ => cases h
  | .str i, S, X, W, x, g, tk, h => by
    cases x with
    | Constant c kk p =>
      cases c with
      | str j =>
        have e : i = j := of_decide_eq_true h
        subst e
        have q : PE X (.Constant (.str i) kk p) (tR G T W (ev tb cf (.str i)).1) := e_const pe_str fun F => .str i
        exact ⟨q, t_both g.hK q fun _ => rfl⟩
      | _ => cases h
    | _ => cases h
  | .bin op a b, S, X, W, x, g, tk, h => by
    cases x with
    | BinOp x op' y p =>
      obtain ⟨h1, h⟩ := and1 (show (decide (op = op') && (chkE nm a S x && chkE nm b S y)) = true from h)
      obtain ⟨h2, h3⟩ := and1 h
      have e : op = op' := of_decide_eq_true h1
      subst e
      have q : PE X (.BinOp x op y p) (tR G T W (ev tb cf (.bin op a b)).1) := e_two (pe_op (op_binD g.hK op) (sE a g tk h2).1 (sE b g tk h3).1)
      exact ⟨q, t_both g.hK q fun _ => rfl⟩
    | _ => cases h
  | .neg a, S, X, W, x, g, tk, h => by
    cases x with
    | UnaryOp op x p =>
      cases op with
      | USub =>
        have h : chkE nm a S x = true := h
        have un : UnR X (unaryOp .USub) (P1 G fun d => vP id (negD d)) := by
          intro pins s σ H x v Q I r ⟨F, c, pr, z1, z2, z3, z4⟩
          cases c with
          | int i =>
            cases z3
            exact un_neg pins s σ H x v Q I r ⟨i, z2.int, z4 _ F H (.int z1)⟩
          | _ => cases z3
        have q : PE X (.UnaryOp .USub x p) (tR G T W (ev tb cf (.neg a)).1) := e_one (pe_un un (sE a g tk h).1)
        exact ⟨q, t_both g.hK q fun _ => rfl⟩
      | _ => cases h
    | _ => cases h
  | .not a, S, X, W, x, g, tk, h => by
    cases x with
    | UnaryOp op x p =>
      cases op with
      | Not =>
        have h : chkE nm a S x = true := h
        exact ⟨e_not g.hK (sE a g tk h).1, t_not (sE a g tk h).2⟩
      | _ => cases h
    | _ => cases h
  | .and a b, S, X, W, x, g, tk, h => by
    cases x with
    | BoolOp op xs p =>
      cases op with
      | Or => cases xs with
        | nil => cases h
        | cons x xs => cases xs <;> cases h
      | And =>
        cases xs with
        | nil => cases h
        | cons x xs =>
          cases xs with
          | nil => cases h
          | cons y r =>
            cases r with
            | nil =>
              obtain ⟨h1, h2⟩ := and1 (show (chkE nm a S x && chkE nm b S y) = true from h)
              have sa := sE a g tk h1
              have sb := sE b g tk h2
              exact ⟨e_and sa.1 (pe_one sb.1), (t_and sa.2 (pw_and1 sb.2)).pt⟩
            | cons z r =>
              obtain ⟨h1, h2⟩ := and1 (show (chkE nm a S x && chkE nm b S (.BoolOp .And (y :: z :: r) p)) = true from h)
              have sa := sE a g tk h1
              have sb := sE b g tk h2
              exact ⟨e_and sa.1 sb.1, (t_and sa.2 (pw_of sb.2)).pt⟩
    | _ => cases h
  | .or a b, S, X, W, x, g, tk, h => by
    cases x with
    | BoolOp op xs p =>
      cases op with
      | And => cases xs with
        | nil => cases h
        | cons x xs => cases xs <;> cases h
      | Or =>
        cases xs with
        | nil => cases h
        | cons x xs =>
          cases xs with
          | nil => cases h
          | cons y r =>
            cases r with
            | nil =>
              obtain ⟨h1, h2⟩ := and1 (show (chkE nm a S x && chkE nm b S y) = true from h)
              have sa := sE a g tk h1
              have sb := sE b g tk h2
              exact ⟨e_or sa.1 (pe_one sb.1), (t_or sa.2 (pw_or1 sb.2)).pt⟩
            | cons z r =>
              obtain ⟨h1, h2⟩ := and1 (show (chkE nm a S x && chkE nm b S (.BoolOp .Or (y :: z :: r) p)) = true from h)
              have sa := sE a g tk h1
              have sb := sE b g tk h2
              exact ⟨e_or sa.1 sb.1, (t_or sa.2 (pw_of sb.2)).pt⟩
    | _ => cases h
  | .cmp op a b, S, X, W, x, g, tk, h => by
    cases x with
    | Compare x ops ys p =>
      cases ops with
      | nil => cases ys <;> cases h
      | cons o ops =>
        cases ops with
        | cons o2 ops => cases ys with
          | nil => cases h
          | cons y ys => cases ys <;> cases h
        | nil =>
          cases ys with
          | nil => cases h
          | cons y ys =>
            cases ys with
            | cons _ _ => cases h
            | nil =>
              obtain ⟨h1, h⟩ := and1 (show (decide (op = o) && (chkE nm a S x && chkE nm b S y)) = true from h)
              obtain ⟨h2, h3⟩ := and1 h
              have e : op = o := of_decide_eq_true h1
              subst e
              have sa := sE a g tk h2
              have sb := sE b g tk h3
              exact ⟨e_cmp g sa.1 sb.1 (mark_of h3 op), t_cmp g sa.1 sb.1 (mark_of h3 op)⟩
    | _ => cases h
  | .chain op op' a b c, S, X, W, x, g, tk, h => by
    cases x with
    | Compare x ops ys p =>
      cases ops with
      | nil => cases ys <;> cases h
      | cons o ops =>
        cases ops with
        | nil => cases ys with
          | nil => cases h
          | cons y ys => cases ys <;> cases h
        | cons o2 ops =>
          cases ops with
          | cons _ _ => cases ys with
            | nil => cases h
            | cons y ys => cases ys with
              | nil => cases h
              | cons z ys => cases ys <;> cases h
          | nil =>
            cases ys with
            | nil => cases h
            | cons y ys =>
              cases ys with
              | nil => cases h
              | cons z ys =>
                cases ys with
                | cons _ _ => cases h
                | nil =>
                  obtain ⟨h1, h⟩ := and1 (show (decide (op = o) && (decide (op' = o2) && (chkE nm a S x && (chkE nm b S y && chkE nm c S z)))) = true from h)
                  obtain ⟨h2, h⟩ := and1 h
                  obtain ⟨h3, h⟩ := and1 h
                  obtain ⟨h4, h5⟩ := and1 h
                  have e : op = o := of_decide_eq_true h1
                  subst e
                  have e : op' = o2 := of_decide_eq_true h2
                  subst e
                  have sa := sE a g tk h3
                  have sb := sE b g tk h4
                  have sc := sE c g tk h5
                  have hm : lastMarks [op, op'] [y, z] = false := mark_of h5 op'
                  exact ⟨e_chain g sa.1 sb.1 sc.1 hm, t_chain g sa.1 sb.1 sc.1 hm⟩
    | _ => cases h
  | .ite t a b, S, X, W, x, g, tk, h => by
    cases x with
    | IfExp u x y p =>
      obtain ⟨h1, h⟩ := and1 (show (chkE nm t S u && (chkE nm a S x && chkE nm b S y)) = true from h)
      obtain ⟨h2, h3⟩ := and1 h
      have st := sE t g tk h1
      have sa := sE a g tk h2
      have sb := sE b g tk h3
      exact ⟨e_ite st.2 sa.1 sb.1, t_ite st.2 sa.2 sb.2⟩
    | _ => cases h
  | .tup es, S, X, W, x, g, tk, h => by
    cases x with
    | Tuple xs kk p =>
      have q : PE X (.Tuple xs kk p) (tR G T W (ev tb cf (.tup es)).1) := e_tup (sL es g tk h)
      exact ⟨q, t_both g.hK q fun _ => rfl⟩
    | _ => cases h
  | .lst es, S, X, W, x, g, tk, h => by
    cases x with
    | List xs p =>
      have q : PE X (.List xs p) (tR G T W (ev tb cf (.lst es)).1) := e_lst (sL es g tk h)
      exact ⟨q, t_both g.hK q fun _ => rfl⟩
    | _ => cases h
  | .dct ks vs, S, X, W, x, g, tk, h => by
    cases x with
    | Dict xs ys p =>
      obtain ⟨h1, h⟩ := and1 (show (chkKs ks xs && (chkL nm vs S ys && (decide (xs.length = ys.length) && (!xs.isEmpty && decide (xs.length ≤ 15))))) = true from h)
      obtain ⟨h2, h⟩ := and1 h
      obtain ⟨h3, h⟩ := and1 h
      obtain ⟨h4, h5⟩ := and1 h
      have h5 := of_decide_eq_true h5
      obtain ⟨l1, l2⟩ := chkKs_len h1
      have hne : xs ≠ [] := fun e => by subst e; cases h4
      have hlen := of_decide_eq_true h3
      have q : PE X (.Dict xs ys p) (tR G T W (ev tb cf (.dct ks vs)).1) := pe_mono (pe_disp (sK vs g tk h1 h2 hlen) l2 hlen hne h5) fun σ H Q hq => dct_red (by rw [l1, hlen]; exact chkL_len h2) (by rw [l1]; exact h5) hq
      exact ⟨q, t_both g.hK q fun _ => rfl⟩
    | _ => cases h
  | .dct0, S, X, W, x, g, tk, h => by
    cases x with
    | Dict xs ys p =>
      cases xs with
      | cons _ _ => cases h
      | nil =>
        cases ys with
        | cons _ _ => cases h
        | nil =>
          have q : PE X (.Dict [] [] p) (tR G T W (ev tb cf .dct0).1) := pe_mono pe_dnewK fun σ H Q hq => dct0_red hq
          exact ⟨q, t_both g.hK q fun _ => rfl⟩
    | _ => cases h
  | .dic0, S, X, W, x, g, tk, h => by
    cases x with
    | Dict xs ys p =>
      cases xs with
      | cons _ _ => cases h
      | nil =>
        cases ys with
        | cons _ _ => cases h
        | nil =>
          have q : PE X (.Dict [] [] p) (tR G T W (ev tb cf .dic0).1) := pe_mono (pe_dnewN g.hw) fun σ H Q hq => dic0_red hq
          exact ⟨q, t_both g.hK q fun _ => rfl⟩
    | _ => cases h
  | .dic1 k v, S, X, W, x, g, tk, h => by
    cases x with
    | Dict xs ys p =>
      cases xs with
      | nil => cases h
      | cons xk xs =>
        cases xk with
        | none => cases h
        | some xk =>
          cases xs with
          | cons _ _ => cases h
          | nil =>
            cases ys with
            | nil => cases h
            | cons yv ys =>
              cases ys with
              | cons _ _ => cases h
              | nil =>
                obtain ⟨h1, h2⟩ := and1 (show (chkE nm k S xk && chkE nm v S yv) = true from h)
                have q : PE X (.Dict [some xk] [yv] p) (tR G T W (ev tb cf (.dic1 k v)).1) := pe_mono (pe_dic1 g.hK g.hw g.hu (sE k g tk h1).1 (sE v g tk h2).1) fun σ H Q hq => dic1_red hq
                exact ⟨q, t_both g.hK q fun _ => rfl⟩
    | _ => cases h
  | .sset e, S, X, W, x, g, tk, h => by
    cases x with
    | Call u xs kws p =>
      cases u with
      | Name n p2 =>
        cases xs with
        | nil => cases h
        | cons a as =>
          cases a with
          | Call u2 ys kws2 q =>
            cases u2 with
            | Name n2 p3 =>
              cases ys with
              | nil => cases kws2 <;> cases as <;> cases kws <;> cases h
              | cons y ys =>
                cases ys with
                | cons _ _ => cases kws2 <;> cases as <;> cases kws <;> cases h
                | nil =>
                  cases kws2 with
                  | cons _ _ => cases as <;> cases kws <;> cases h
                  | nil =>
                    cases as with
                    | cons _ _ => cases kws <;> cases h
                    | nil =>
                      cases kws with
                      | cons _ _ => cases h
                      | nil =>
                        obtain ⟨h1, h⟩ := and1 (show (decide (n = ("sorted" : Str)) && (decide (n2 = ("set" : Str)) && (glB S n && (glB S n2 && chkE nm e S y)))) = true from h)
                        obtain ⟨h2, h⟩ := and1 h
                        obtain ⟨h3, h⟩ := and1 h
                        obtain ⟨h4, h5⟩ := and1 h
                        have e1 : n = ("sorted" : Str) := of_decide_eq_true h1
                        have e2 : n2 = ("set" : Str) := of_decide_eq_true h2
                        subst e1 e2
                        have q : PE X (.Call (.Name "sorted" p2) [.Call (.Name "set" p3) [y] [] q] [] p) (tR G T W (ev tb cf (.sset e)).1) := e_one (pe_sset g.hK g.calm (fun env => star_cons (chk_star h5)) (g.gl h3) (g.glo.blt _ (by decide)) (g.gl h4) (g.glo.blt _ (by decide)) (sE e g tk h5).1 fun σ H Q Q' hq m => tM_mono hq m)
                        exact ⟨q, t_both g.hK q fun _ => rfl⟩
            | _ => cases h
          | _ => cases h
      | _ => cases kws <;> cases h
    | _ => cases h
  | .ix a b, S, X, W, x, g, tk, h => by
    cases x with
    | Subscript x y p =>
      obtain ⟨h1, h2⟩ := and1 (show (chkE nm a S x && chkE nm b S y) = true from (by cases y <;> exact h))
      have q : PE X (.Subscript x y p) (tR G T W (ev tb cf (.ix a b)).1) := e_ix g (sE a g tk h1).1 (sE b g tk h2).1 (plainIx_of h2)
      exact ⟨q, t_both g.hK q fun _ => rfl⟩
    | _ => cases h
  | .slN a, S, X, W, x, g, tk, h => by
    cases x with
    | Subscript x y p =>
      cases y with
      | Slice l u s p2 =>
        cases l with
        | some l => cases u <;> cases s <;> cases h
        | none => cases u with
          | some u => cases s <;> cases h
          | none => cases s with
            | some s => cases h
            | none =>
              have q : PE X (.Subscript x (.Slice none none none p2) p) (tR G T W (ev tb cf (.slN a)).1) := e_slN g (sE a g tk (show chkE nm a S x = true from h)).1
              exact ⟨q, t_both g.hK q fun _ => rfl⟩
      | _ => cases h
    | _ => cases h
  | .slL a l, S, X, W, x, g, tk, h => by
    cases x with
    | Subscript x y p =>
      cases y with
      | Slice lo u s p2 =>
        cases lo with
        | none => cases u <;> cases s <;> cases h
        | some lo => cases u with
          | some u => cases s <;> cases h
          | none => cases s with
            | some s => cases h
            | none =>
              obtain ⟨h1, h2⟩ := and1 (show (chkE nm a S x && chkE nm l S lo) = true from h)
              have q : PE X (.Subscript x (.Slice (some lo) none none p2) p) (tR G T W (ev tb cf (.slL a l)).1) := e_slL g (sE a g tk h1).1 (sE l g tk h2).1
              exact ⟨q, t_both g.hK q fun _ => rfl⟩
      | _ => cases h
    | _ => cases h
  | .slH a l, S, X, W, x, g, tk, h => by
    cases x with
    | Subscript x y p =>
      cases y with
      | Slice lo u s p2 =>
        cases lo with
        | some lo => cases u <;> cases s <;> cases h
        | none => cases u with
          | none => cases s <;> cases h
          | some u => cases s with
            | some s => cases h
            | none =>
              obtain ⟨h1, h2⟩ := and1 (show (chkE nm a S x && chkE nm l S u) = true from h)
              have q : PE X (.Subscript x (.Slice none (some u) none p2) p) (tR G T W (ev tb cf (.slH a l)).1) := e_slH g (sE a g tk h1).1 (sE l g tk h2).1
              exact ⟨q, t_both g.hK q fun _ => rfl⟩
      | _ => cases h
    | _ => cases h
  | .slB a l u', S, X, W, x, g, tk, h => by
    cases x with
    | Subscript x y p =>
      cases y with
      | Slice lo u s p2 =>
        cases lo with
        | none => cases u <;> cases s <;> cases h
        | some lo => cases u with
          | none => cases s <;> cases h
          | some u => cases s with
            | some s => cases h
            | none =>
              obtain ⟨h1, h⟩ := and1 (show (chkE nm a S x && (chkE nm l S lo && chkE nm u' S u)) = true from h)
              obtain ⟨h2, h3⟩ := and1 h
              have q : PE X (.Subscript x (.Slice (some lo) (some u) none p2) p) (tR G T W (ev tb cf (.slB a l u')).1) := e_slB g (sE a g tk h1).1 (sE l g tk h2).1 (sE u' g tk h3).1
              exact ⟨q, t_both g.hK q fun _ => rfl⟩
      | _ => cases h
    | _ => cases h
  | .call f es, S, X, W, x, g, tk, h => by
    cases x with
    | Call u xs kws p =>
      cases u with
      | Name n p2 =>
        cases kws with
        | cons _ _ => cases h
        | nil =>
          obtain ⟨h1, h⟩ := and1 (show (decide (nm.fn[f]? = some n) && (glB S n && (plainB n && chkL nm es S xs))) = true from h)
          obtain ⟨h2, h⟩ := and1 h
          obtain ⟨h3, h4⟩ := and1 h
          have q : PE X (.Call (.Name n p2) xs [] p) (tR G T W (ev tb cf (.call f es)).1) := e_call g tk (of_decide_eq_true h1) h2 h3 (chkL_star h4) (sL es g tk h4)
          exact ⟨q, t_both g.hK q fun _ => rfl⟩
      | _ => cases kws <;> cases h
    | _ => cases h
  | .callv f es, S, X, W, x, g, tk, h => by
    cases x with
    | Call u xs kws p =>
      cases kws with
      | cons _ _ => cases h
      | nil =>
        obtain ⟨h1, h⟩ := and1 h
        obtain ⟨h2, h3⟩ := and1 h
        have q : PE X (.Call u xs [] p) (tR G T W (ev tb cf (.callv f es)).1) := e_callv g tk (attr_no h1) (chkL_star h3) (sE f g tk h2).1 (sL es g tk h3)
        exact ⟨q, t_both g.hK q fun _ => rfl⟩
    | _ => cases h
  | .bi b es, S, X, W, x, g, tk, h => by
    cases x with
    | Call u xs kws p =>
      cases u with
      | Name n p2 =>
        cases kws with
        | cons _ _ => cases h
        | nil =>
          obtain ⟨h1, h⟩ := and1 (show (decide ((biN b : Str) = n) && (glB S n && (!xs.isEmpty && chkL nm es S xs))) = true from h)
          obtain ⟨h2, h⟩ := and1 h
          obtain ⟨h3, h4⟩ := and1 h
          have e : (biN b : Str) = n := of_decide_eq_true h1
          subst e
          have q : PE X (.Call (.Name (biN b : Str) p2) xs [] p) (tR G T W (ev tb cf (.bi b es)).1) := e_bi g h2 (ne_of_empty h3) (chkL_star h4) (sL es g tk h4)
          exact ⟨q, t_both g.hK q fun _ => rfl⟩
      | _ => cases kws <;> cases h
    | _ => cases h
  | .isi e t, S, X, W, x, g, tk, h => by
    cases x with
    | Call u xs kws p =>
      cases u with
      | Name n p2 =>
        cases xs with
        | nil => cases h
        | cons x xs =>
          cases xs with
          | nil => cases h
          | cons y xs =>
            cases y with
            | Name n2 p3 =>
              cases xs with
              | cons _ _ => cases h
              | nil =>
                cases kws with
                | cons _ _ => cases h
                | nil =>
                  obtain ⟨h1, h⟩ := and1 (show (decide (n = ("isinstance" : Str)) && (glB S n && (decide (n2 = (tyN t : Str)) && (glB S n2 && chkE nm e S x)))) = true from h)
                  obtain ⟨h2, h⟩ := and1 h
                  obtain ⟨h3, h⟩ := and1 h
                  obtain ⟨h4, h5⟩ := and1 h
                  have e1 : n = ("isinstance" : Str) := of_decide_eq_true h1
                  have e2 : n2 = (tyN t : Str) := of_decide_eq_true h3
                  subst e1 e2
                  have q : PE X (.Call (.Name "isinstance" p2) [x, .Name (tyN t : Str) p3] [] p) (tR G T W (ev tb cf (.isi e t)).1) := e_isi g h2 h4 (chk_star h5) (sE e g tk h5).1
                  exact ⟨q, t_both g.hK q fun _ => rfl⟩
            | _ => cases h
      | _ => cases h
    | _ => cases h
  | .bm m o es, S, X, W, x, g, tk, h => by
    cases x with
    | Call u xs kws p =>
      cases u with
      | Attribute x n ap =>
        cases kws with
        | cons _ _ => cases h
        | nil =>
          obtain ⟨h1, h⟩ := and1 h
          obtain ⟨h2, h⟩ := and1 h
          obtain ⟨h3, h⟩ := and1 h
          obtain ⟨h4, h⟩ := and1 h
          obtain ⟨h5, h⟩ := and1 h
          obtain ⟨h6, h7⟩ := and1 h
          have e : n = (bmN m : Str) := of_decide_eq_true h1
          subst e
          cases m with
          | lindex =>
            have q : PE X (.Call (.Attribute x (bmN .lindex : Str) ap) xs [] p) (tR G T W (ev tb cf (.bm .lindex o es)).1) := e_bm g (mt_index' g.hK g.hu) PySem.F.slot_list_index PySem.F.type_list_index h2 (chkL_star h7) (few_of h4) (ne_of_empty h3) (call_no h5) (sE o g tk h6).1 (sL es g tk h7)
            exact ⟨q, t_both g.hK q fun _ => rfl⟩
          | lcount =>
            have q : PE X (.Call (.Attribute x (bmN .lcount : Str) ap) xs [] p) (tR G T W (ev tb cf (.bm .lcount o es)).1) := e_bm g (mt_count' g.hK g.hu) PySem.F.slot_list_count PySem.F.type_list_count h2 (chkL_star h7) (few_of h4) (ne_of_empty h3) (call_no h5) (sE o g tk h6).1 (sL es g tk h7)
            exact ⟨q, t_both g.hK q fun _ => rfl⟩
      | _ => cases kws <;> cases h
    | _ => cases h
  | .mm m i es, S, X, W, x, g, tk, h => by
    cases x with
    | Call u xs kws p =>
      cases u with
      | Attribute x n ap =>
        cases x with
        | Name x p2 =>
          cases kws with
          | cons _ _ => cases h
          | nil =>
            obtain ⟨h1, h⟩ := and1 (show (decide (n = (mmN m : Str)) && ((ap.endLine == p.line) && (decide (xs.length < 29) && (decide (S.N[i]? = some x) && (visB S x && (plainB x && chkL nm es S xs)))))) = true from h)
            obtain ⟨h2, h⟩ := and1 h
            obtain ⟨h3, h⟩ := and1 h
            obtain ⟨h4, h⟩ := and1 h
            obtain ⟨h5, h⟩ := and1 h
            obtain ⟨h6, h7⟩ := and1 h
            have e : n = (mmN m : Str) := of_decide_eq_true h1
            subst e
            cases m with
            | append =>
              have q : PE X (.Call (.Attribute (.Name x p2) (mmN .append : Str) ap) xs [] p) (tR G T W (ev tb cf (.mm .append i es)).1) := e_mm g mt_append' PySem.F.slot_list_append PySem.F.type_list_append (of_decide_eq_true h4) h5 h6 h2 (chkL_star h7) (few_of h3) (sL es g tk h7)
              exact ⟨q, t_both g.hK q fun _ => rfl⟩
            | pop =>
              have q : PE X (.Call (.Attribute (.Name x p2) (mmN .pop : Str) ap) xs [] p) (tR G T W (ev tb cf (.mm .pop i es)).1) := e_mm g mt_pop' PySem.F.slot_list_pop PySem.F.type_list_pop (of_decide_eq_true h4) h5 h6 h2 (chkL_star h7) (few_of h3) (sL es g tk h7)
              exact ⟨q, t_both g.hK q fun _ => rfl⟩
            | extend =>
              have q : PE X (.Call (.Attribute (.Name x p2) (mmN .extend : Str) ap) xs [] p) (tR G T W (ev tb cf (.mm .extend i es)).1) := e_mm g mt_extend' PySem.F.slot_list_extend PySem.F.type_list_extend (of_decide_eq_true h4) h5 h6 h2 (chkL_star h7) (few_of h3) (sL es g tk h7)
              exact ⟨q, t_both g.hK q fun _ => rfl⟩
        | _ => cases kws <;> cases h
      | _ => cases kws <;> cases h
    | _ => cases h
  | .lc elt t it c own, S, X, W, x, g, tk, h => by
    cases x with
    | ListComp e gs scope p =>
      cases gs with
      | nil => cases h
      | cons gg gs =>
        cases gs with
        | cons _ _ => cases h
        | nil =>
          obtain ⟨tg, iter, ifs, asy⟩ := gg
          obtain ⟨h1, h⟩ := and1 h
          obtain ⟨h2, h⟩ := and1 h
          obtain ⟨h3, h⟩ := and1 h
          obtain ⟨h4, h⟩ := and1 h
          obtain ⟨h5, h⟩ := and1 h
          obtain ⟨h6, h7⟩ := and1 h
          have e0 : asy = 0 := of_decide_eq_true h1
          subst e0
          have ok := blkOk_by h2
          rw [← g.hN, ← g.hs] at ok
          have hts : ∀ (s : Shared) (H : Hp) (C : Addr) (cl : List (Str × Addr)) (fp : List Addr), PTs (X.blk s H scope (compEnvC scope cl C X.env) fp) ifs (tT G T W0 (ev tb cf c).2) := fun s H C cl fp => by
            cases ifs with
            | nil => exact pts_mono pts_nil fun σ H Q hq => yes_red (isTr_ev h6) hq
            | cons y ys =>
              cases ys with
              | nil => exact pts_one (sE c (g.blk s H scope C cl fp) takes0 h6).2
              | cons _ _ => cases h6
          have q : PE X (.ListComp e [⟨tg, iter, ifs, 0⟩] scope p) (tR G T W (ev tb cf (.lc elt t it c own)).1) := by
            refine pe_mono (pe_lc (wi := tI G T W (evI tb cf it)) (g := tG G T t) (tt := tT G T W0 (ev tb cf c).2) (te := tR G T W0 (ev tb cf elt).1) g.calm (by rw [g.hN]; exact g.nd) (sI it g tk h5) ok (fun s H C cl fp => sT (g.blk s H scope C cl fp) t h4) hts
              (fun s H C cl fp => (sE elt (g.blk s H scope C cl fp) takes0 h7).1) (fold_of h5 X.env)) fun σ H Q hq => ?_
            rw [own_snd]
            exact lc_red (sub_of h3) hq
          exact ⟨q, t_both g.hK q fun _ => rfl⟩
    | _ => cases h
  | .lc2 elt t it c t1 it1 c1 own own1, S, X, W, x, g, tk, h => by
    cases x with
    | ListComp e gs scope p =>
      cases gs with
      | nil => cases h
      | cons gg gs =>
        cases gs with
        | nil => cases h
        | cons gg1 gs =>
        cases gs with
        | cons _ _ => cases h
        | nil =>
          obtain ⟨tg, iter, ifs, asy⟩ := gg
          obtain ⟨tg1, iter1, ifs1, asy1⟩ := gg1
          obtain ⟨h1, h⟩ := and1 h
          obtain ⟨h1', h⟩ := and1 h
          obtain ⟨h2, h⟩ := and1 h
          obtain ⟨h3, h⟩ := and1 h
          obtain ⟨h3', h⟩ := and1 h
          obtain ⟨h3i, h⟩ := and1 h
          obtain ⟨h4, h⟩ := and1 h
          obtain ⟨h4', h⟩ := and1 h
          obtain ⟨h5, h⟩ := and1 h
          obtain ⟨h5', h⟩ := and1 h
          obtain ⟨h6, h⟩ := and1 h
          obtain ⟨h6', h7⟩ := and1 h
          have e0 : asy = 0 := of_decide_eq_true h1
          subst e0
          have e0 : asy1 = 0 := of_decide_eq_true h1'
          subst e0
          have ok := blkOk_by h2
          rw [← g.hN, ← g.hs] at ok
          have hts : ∀ (s : Shared) (H : Hp) (C : Addr) (cl : List (Str × Addr)) (fp : List Addr), PTs (X.blk s H scope (compEnvC scope cl C X.env) fp) ifs (tT G T W0 (ev tb cf c).2) := fun s H C cl fp => by
            cases ifs with
            | nil => exact pts_mono pts_nil fun σ H Q hq => yes_red (isTr_ev h6) hq
            | cons y ys =>
              cases ys with
              | nil => exact pts_one (sE c (g.blk s H scope C cl fp) takes0 h6).2
              | cons _ _ => cases h6
          have hts1 : ∀ (s : Shared) (H : Hp) (C : Addr) (cl : List (Str × Addr)) (fp : List Addr), PTs (X.blk s H scope (compEnvC scope cl C X.env) fp) ifs1 (tT G T W0 (ev tb cf c1).2) := fun s H C cl fp => by
            cases ifs1 with
            | nil => exact pts_mono pts_nil fun σ H Q hq => yes_red (isTr_ev h6') hq
            | cons y ys =>
              cases ys with
              | nil => exact pts_one (sE c1 (g.blk s H scope C cl fp) takes0 h6').2
              | cons _ _ => cases h6'
          have q : PE X (.ListComp e [⟨tg, iter, ifs, 0⟩, ⟨tg1, iter1, ifs1, 0⟩] scope p) (tR G T W (ev tb cf (.lc2 elt t it c t1 it1 c1 own own1)).1) := by
            refine pe_mono (pe_lc2 (vs1 := own1) (wi := tI G T W (evI tb cf it)) (g := tG G T t) (tt := tT G T W0 (ev tb cf c).2) (te := tR G T W0 (ev tb cf elt).1) (wi1 := tI G T W0 (evI tb cf it1)) (g1 := tG G T t1) (tt1 := tT G T W0 (ev tb cf c1).2) g.calm (by rw [g.hN]; exact g.nd) (sI it g tk h5) ok
              (by rw [own_snd]; exact sub_of h3i) (fun s H C cl fp => sT (g.blk s H scope C cl fp) t h4) hts (fun s H C cl fp => sI it1 (g.blk s H scope C cl fp) takes0 h5') (fun s H C cl fp => sT (g.blk s H scope C cl fp) t1 h4') hts1
              (fun s H C cl fp => (sE elt (g.blk s H scope C cl fp) takes0 h7).1) (fold_of h5 X.env) (fold_of h5')) fun σ H Q hq => ?_
            rw [own_snd]
            exact lc2_red (sub_of h3) (sub_of h3') (sub_of h3i) hq
          exact ⟨q, t_both g.hK q fun _ => rfl⟩
    | _ => cases h
theorem sL : ∀ (es : Es) {S : SC} {X : Cx} {W : WX} {xs : List Expr}, Good G nm tb cf k S X → Takes X W → chkL nm es S xs = true → PA X xs (tL G T W (evL tb cf es))
  | .nil, S, X, W, xs, g, tk, h => by
    cases xs with
    | nil => exact l_nil
    | cons _ _ => cases h
  | .cons e es, S, X, W, xs, g, tk, h => by
    cases xs with
    | nil => cases h
    | cons x xs =>
      obtain ⟨h1, h2⟩ := and1 (show (chkE nm e S x && chkL nm es S xs) = true from h)
      exact l_cons (chk_star h1) (sE e g tk h1).1 (sL es g tk h2)
theorem sK : ∀ (es : Es) {ks : List Key} {S : SC} {X : Cx} {W : WX} {xs : List (Option Expr)} {ys : List Expr} {p : Pos}, Good G nm tb cf k S X → Takes X W → chkKs ks xs = true → chkL nm es S ys = true → xs.length = ys.length → PPs X p xs ys (trsOf G T W tb cf ks es)
  | .nil, ks, S, X, W, xs, ys, p, g, tk, h, h', hl => by
    cases ys with
    | cons _ _ => cases h'
    | nil =>
      cases xs with
      | cons _ _ => cases hl
      | nil =>
        cases ks with
        | nil => exact pps_nil
        | cons k _ => cases k <;> cases h
  | .cons e es, ks, S, X, W, xs, ys, p, g, tk, h, h', hl => by
    cases ys with
    | nil => cases h'
    | cons y ys =>
      obtain ⟨h1, h2⟩ := and1 (show (chkE nm e S y && chkL nm es S ys) = true from h')
      cases xs with
      | nil => cases hl
      | cons x xs =>
        cases ks with
        | nil => cases h
        | cons k ks =>
          have hl' : xs.length = ys.length := Nat.succ.inj hl
          cases x with
          | none => cases k <;> cases h
          | some c =>
            cases c with
            | Constant c kk pp =>
              cases k with
              | inl i =>
                cases c with
                | int j =>
                  obtain ⟨q1, q2⟩ := and1 (show (decide (i = j) && chkKs ks xs) = true from h)
                  have e1 : i = j := of_decide_eq_true q1
                  subst e1
                  exact pps_cons pe_int (sE e g tk h1).1 (sK es g tk q2 h2 hl')
                | _ => cases h
              | inr s =>
                cases c with
                | str t =>
                  obtain ⟨q1, q2⟩ := and1 (show (decide (s = t) && chkKs ks xs) = true from h)
                  have e1 : s = t := of_decide_eq_true q1
                  subst e1
                  exact pps_cons pe_str (sE e g tk h1).1 (sK es g tk q2 h2 hl')
                | _ => cases h
            | _ => cases k <;> cases h
theorem sI : ∀ (i : I) {S : SC} {X : Cx} {W : WX} {tg x : Expr}, Good G nm tb cf k S X → Takes X W → chkI nm i S tg x = true → PI X tg x (tI G T W (evI tb cf i))
  | .sq e, S, X, W, tg, x, g, tk, h => i_sq g (sE e g tk (show chkE nm e S x = true from h)).1
  | .rng1 a, S, X, W, tg, x, g, tk, h => by
    cases x with
    | Call u xs kws p =>
      cases u with
      | Name n p2 =>
        cases xs with
        | nil => cases h
        | cons x xs =>
          cases xs with
          | cons _ _ => cases h
          | nil =>
            cases kws with
            | cons _ _ => cases h
            | nil =>
              obtain ⟨h1, h⟩ := and1 (show (decide (n = ("range" : Str)) && (glB S n && chkE nm a S x)) = true from h)
              obtain ⟨h2, h3⟩ := and1 h
              have e : n = ("range" : Str) := of_decide_eq_true h1
              subst e
              exact i_rng1 g h2 (chk_star h3) (sE a g tk h3).1
      | _ => cases h
    | _ => cases h
  | .rng2 a b, S, X, W, tg, x, g, tk, h => by
    cases x with
    | Call u xs kws p =>
      cases u with
      | Name n p2 =>
        cases xs with
        | nil => cases h
        | cons x xs =>
          cases xs with
          | nil => cases h
          | cons y xs =>
            cases xs with
            | cons _ _ => cases h
            | nil =>
              cases kws with
              | cons _ _ => cases h
              | nil =>
                obtain ⟨h1, h⟩ := and1 (show (decide (n = ("range" : Str)) && (glB S n && (chkE nm a S x && chkE nm b S y))) = true from h)
                obtain ⟨h2, h⟩ := and1 h
                obtain ⟨h3, h4⟩ := and1 h
                have e : n = ("range" : Str) := of_decide_eq_true h1
                subst e
                exact i_rng2 g h2 (chk_star h3) (chk_star h4) (sE a g tk h3).1 (sE b g tk h4).1
      | _ => cases h
    | _ => cases h
  | .enum a, S, X, W, tg, x, g, tk, h => by
    cases tg with
    | Tuple ts kk tp =>
      cases x with
      | Call u xs kws p =>
        cases u with
        | Name n p2 =>
          cases xs with
          | nil => cases h
          | cons x xs =>
            cases xs with
            | cons _ _ => cases h
            | nil =>
              cases kws with
              | cons _ _ => cases h
              | nil =>
                obtain ⟨h1, h⟩ := and1 (show (decide (n = ("enumerate" : Str)) && (glB S n && chkE nm a S x)) = true from h)
                obtain ⟨h2, h3⟩ := and1 h
                have e : n = ("enumerate" : Str) := of_decide_eq_true h1
                subst e
                exact i_enum g h2 (chk_star h3) (sE a g tk h3).1
        | _ => cases h
      | _ => cases h
    | _ => cases h
  | .zip a b, S, X, W, tg, x, g, tk, h => by
    cases tg with
    | Tuple ts kk tp =>
      cases x with
      | Call u xs kws p =>
        cases u with
        | Name n p2 =>
          cases xs with
          | nil => cases h
          | cons x xs =>
            cases xs with
            | nil => cases h
            | cons y xs =>
              cases xs with
              | cons _ _ => cases h
              | nil =>
                cases kws with
                | cons _ _ => cases h
                | nil =>
                  obtain ⟨h1, h⟩ := and1 (show (decide (n = ("zip" : Str)) && (glB S n && (chkE nm a S x && chkE nm b S y))) = true from h)
                  obtain ⟨h2, h⟩ := and1 h
                  obtain ⟨h3, h4⟩ := and1 h
                  have e : n = ("zip" : Str) := of_decide_eq_true h1
                  subst e
                  exact i_zip g h2 (chk_star h3) (chk_star h4) (sE a g tk h3).1 (sE b g tk h4).1
        | _ => cases h
      | _ => cases h
    | _ => cases h
end
end
end Ev

set_option Elab.async false
set_option linter.all false
set_option maxRecDepth 100000
set_option maxHeartbeats 1000000
/-! Stores of several names. -/
namespace Ev
open PySem PySem.Spec L2
open PyProof.Rows hiding St

def setAll (σ : St) : List Nat → List V → St
  | i :: is, v :: vs => setAll (σ.set i (some v)) is vs
  | _, _ => σ
/-- a, b, .. = x, y, ..: the names' slots -/
def tParN (is : List Nat) (ta : TA) : TS := fun D σ H => ta σ H fun vs H1 => vs.length = is.length ∧ D.nx (setAll σ is vs) H1
section
variable {X : Cx} {pos : Pos} {t : TS}
theorem ps_mono {st : Stmt} {t t' : TS} (h : PS X st t) (m : ∀ D σ H, t' D σ H → t D σ H) : PS X st t' := ⟨fun pins s σ H D I hw => h.run pins s σ H D I (m D σ H hw)⟩
theorem pss_mono {st : List Stmt} {t t' : TS} (h : PSs X st t) (m : ∀ D σ H, t' D σ H → t D σ H) : PSs X st t' := ⟨fun pins s σ H D I hw => h.run pins s σ H D I (m D σ H hw)⟩
/-- three plain local names: from the right -/
theorem ps_par3 {i j k : Nat} {x y z : Str} {es : List Expr} {ta : TA} {px py pz pt : Pos} {kt k2 pt2} (hc : X.calm = true) (hN : X.N.Nodup) (hi : X.N[i]? = some x) (hj : X.N[j]? = some y) (hk : X.N[k]? = some z) (hij : i ≠ j) (hik : i ≠ k) (hjk : j ≠ k)
    (hx : X.env.scope.names.lookup x = some .local) (hy : X.env.scope.names.lookup y = some .local) (hz : X.env.scope.names.lookup z = some .local) (ha : PA X es ta)
    (hw : swappedStores [.Tuple [.Name x px, .Name y py, .Name z pz] kt pt] (.Tuple es k2 pt2) X.env = pure (some [x, y, z])) :
    PS X (.Assign [.Tuple [.Name x px, .Name y py, .Name z pz] kt pt] (.Tuple es k2 pt2) pos) (tParN [i, j, k] ta) := by
  refine ⟨fun pins s σ H D I h => ?_⟩
  rw [exec_Assign_arm]
  refine wpAny_bind (wpAny_standAt ?_)
  rw [show swapsWithSole [.Tuple [.Name x px, .Name y py, .Name z pz] kt pt] (.Tuple es k2 pt2) pos.line X.env = pure false from rfl]
  refine wpAny_bind (wpAny_pure ?_)
  rw [if_neg (by decide)]
  refine wpAny_bind (Tuple_ (thn (ha.run _ pins s σ H _ I h) fun us s1 ⟨vs, H1, I1, r1, hl, q1⟩ => ?_))
  obtain ⟨v, w, u, rfl⟩ : ∃ v w u, vs = [v, w, u] := by
    match vs, hl with
    | [v, w, u], _ => exact ⟨v, w, u, rfl⟩
  obtain ⟨u1, u2, u3, rfl, rv, rw', ru⟩ : ∃ u1 u2 u3, us = [u1, u2, u3] ∧ RelV v u1 ∧ RelV w u2 ∧ RelV u u3 := by
    cases r1 with
    | cons p q =>
      cases q with
      | cons p' q' =>
        cases q' with
        | cons p2 q2 =>
          cases q2
          exact ⟨_, _, _, rfl, p, p', p2⟩
  refine wpAny_newObj_type ?_ (by show 3 ≤ sizeLine; decide)
  have I2 : Inv X pins σ H1 { s1 with heap := s1.heap.push { cls := .type "tuple", data := .seq [u1, u2, u3].toArray } } := I1.kept (t' := s1.toks) fun b o e => Heap.get?_push_of_some _ e
  rw [hw]
  refine wpAny_bind (wpAny_pure ?_)
  show wpAny (model X.prog X.w) X.A (do rule "assign.swapped-stores"; let items ← unpackItems (.ref s1.heap.objs.size) 3 none; assignInOrder [fun v => bindName X.env z v, fun v => bindName X.env y v, fun v => bindName X.env x v] items.reverse; pure Flow.next) _ _ _
  refine wpAny_bind (wpAny_rule (wpAny_bind (unpackItems_tuple (items := #[u1, u2, u3]) (I.ok.hd hc) (IsTup.new s1.heap _) fun h' hx' => ?_)))
  have I3 := I2.kept (h' := h') (t' := s1.toks) fun b o e => hx' b o (Nat.ne_of_lt (Heap.lt_size e)) e
  show wpAny _ _ (assignInOrder [fun v => bindName X.env z v, fun v => bindName X.env y v, fun v => bindName X.env x v] [u3, u2, u1] >>= fun _ => pure Flow.next) _ _ _
  refine wpAny_bind (assignInOrder_cons (wpAny_bindName (store_ok I3 hN hk (.inl hz) ru (fun s2 I4 => ?_) (.inr hz))))
  refine assignInOrder_cons (wpAny_bindName (store_ok I4 hN hj (.inl hy) rw' (fun s3 I5 => ?_) (.inr hy)))
  refine assignInOrder_cons (wpAny_bindName (store_ok I5 hN hi (.inl hx) rv (fun s4 I6 => assignInOrder_nil (wpAny_pure ?_)) (.inr hx)))
  rw [List.set_comm _ _ (Ne.symm hjk), List.set_comm _ _ (Ne.symm hik), List.set_comm _ _ (Ne.symm hij)] at I6
  exact ⟨_, H1, I6, q1⟩
/-- the names' places -/
inductive NmsOk (X : Cx) : List Nat → List Expr → Prop
  | nil : NmsOk X [] []
  | cons {i : Nat} {x : Str} {p : Pos} {is : List Nat} {es : List Expr} (hi : X.N[i]? = some x) (hl : Loc X.env.scope x) (hf : X.fn x = true ∨ X.env.scope.names.lookup x = some .local) (r : NmsOk X is es) : NmsOk X (i :: is) (.Name x p :: es)
theorem NmsOk.each {is : List Nat} {es : List Expr} (h : NmsOk X is es) : (assignEach es X.env).findIdx? (·.1) = none ∧ (assignEach es X.env).length = es.length ∧ es.length = is.length := by
  induction h with
  | nil => exact ⟨rfl, rfl, rfl⟩
  | @cons i x p is es hi hl hf r ih =>
    rw [show assignEach (.Name x p :: es) X.env = (false, assign (.Name x p) X.env) :: assignEach es X.env from rfl]
    refine ⟨?_, by rw [List.length_cons, List.length_cons, ih.2.1], by rw [List.length_cons, List.length_cons, ih.2.2]⟩
    rw [List.findIdx?_cons]
    simp only [Bool.false_eq_true, if_false, ih.1, Option.map_none]
theorem NmsOk.store {M : Unit} (hN : X.N.Nodup) {is : List Nat} {es : List Expr} (h : NmsOk X is es) : ∀ {pins : List (Addr × Obj)} {s : Shared} {σ : St} {H : Hp} {vs : List V} {us : List Value} {Q : Shared → Prop}, Inv X pins σ H s → Vals vs us → vs.length = is.length → (∀ s', Inv X pins (setAll σ is vs) H s' → Q s') →
    wpAny (model X.prog X.w) X.A (assignInOrder ((assignEach es X.env).map (·.2)) us) (fun _ s' => Q s') X.xe s := by
  induction h with
  | nil =>
    intro pins s σ H vs us Q I r hl hq
    cases r with
    | nil => exact assignInOrder_nil (hq _ I)
    | cons _ _ => cases hl
  | @cons i x p is es hi hx hf r ih =>
    intro pins s σ H vs us Q I rr hl hq
    cases rr with
    | nil => cases hl
    | cons rv rt =>
      rw [show assignEach (.Name x p :: es) X.env = (false, assign (.Name x p) X.env) :: assignEach es X.env from rfl, List.map_cons]
      refine assignInOrder_cons (wpAny_assign_Name (store_ok I hN hi hx rv (fun s2 I2 => ?_) hf))
      exact ih I2 rt (Nat.succ.inj hl) hq
/-- names, from the left: the pair is made and taken apart -/
theorem ps_parG {is : List Nat} {ts es : List Expr} {ta : TA} {kt k2 : Nat} {pt pt2 : Pos} (hc : X.calm = true) (hN : X.N.Nodup) (hn : NmsOk X is ts) (hlen : is.length ≤ sizeLine) (ha : PA X es ta)
    (hw : swappedStores [.Tuple ts kt pt] (.Tuple es k2 pt2) X.env = pure none) : PS X (.Assign [.Tuple ts kt pt] (.Tuple es k2 pt2) pos) (tParN is ta) := by
  refine ⟨fun pins s σ H D I h => ?_⟩
  obtain ⟨n1, n2, n3⟩ := hn.each
  refine wpAny_Assign_stores (Tuple_ (thn (ha.run _ pins s σ H _ I h) fun us s1 ⟨vs, H1, I1, r1, hl, q1⟩ => ?_)) rfl hw
  refine wpAny_newObj_type ?_ (by show us.length ≤ sizeLine; rw [← r1.length, hl]; exact hlen)
  have I2 : Inv X pins σ H1 { s1 with heap := s1.heap.push { cls := .type "tuple", data := .seq us.toArray } } := I1.kept (t' := s1.toks) fun b o e => Heap.get?_push_of_some _ e
  show wpAny _ _ (assignAll _ [assign (.Tuple ts kt pt) X.env]) _ _ _
  refine assign_Tuple_tuple (I.ok.hd hc) (IsTup.new s1.heap _) (by rw [n2, n3, ← hl, r1.length]; rfl) n1 fun h' hx' => ?_
  have I3 := I2.kept (h' := h') (t' := s1.toks) fun b o e => hx' b o (Nat.ne_of_lt (Heap.lt_size e)) e
  exact hn.store (M := ()) hN I3 r1 hl fun s' I' => ⟨_, H1, I', q1⟩
end
end Ev

set_option Elab.async false
set_option linter.all false
set_option maxRecDepth 100000
set_option maxHeartbeats 1000000
/-! The statements' checker; what is wanted behind a statement. -/
namespace Ev
open PySem PySem.Spec L2
open PyProof.Rows hiding St

def isComp : Expr → Bool
  | .ListComp _ _ _ _ | .SetComp _ _ _ _ | .DictComp _ _ _ _ _ => true
  | _ => false
def isTupX : Expr → Bool
  | .Tuple _ _ _ => true
  | _ => false
/-- the name is a plain local, on this line -/
def locLine (S : SC) (l : Nat) : Expr → Bool
  | .Name x p => (S.sc.names.lookup x == some .local) && (p.line == l)
  | _ => false
/-- a comprehension that is stored as it is made -/
def swB (S : SC) (y : Str) (py : Pos) : Expr → Bool
  | .ListComp _ _ scope p => (S.sc.names.lookup y == some .local) && ((py.line == p.line) && !(scope.names.any fun (n, k) => n == y && (k == .local || k == .cell)))
  | _ => false
def nmsB (S : SC) : List Nat → List Expr → Bool
  | [], [] => true
  | i :: is, .Name x _ :: es => decide (S.N[i]? = some x) && (locB S x && nmsB S is es)
  | _, _ => false
def tsNm : Ts → Option (List Nat)
  | .nil => some []
  | .cons (.nm i) r => (tsNm r).map (i :: ·)
  | .cons (.tp _) _ => none
def lineOf : List Expr → Nat
  | .Name _ p :: _ => p.line
  | _ => 0
/-- two or three names, stored from the right -/
def parA (S : SC) (is : List Nat) (ts es : List Expr) : Bool := (ts.length == 2 || ts.length == 3) && ((ts.length == es.length) && (decide is.Nodup && ((ts.all (locLine S (lineOf ts))) && (!(es.all (foldedForSure 8)) && !(es.all (constantsAlone 8))))))
/-- .. from the left -/
def parB (S : SC) (ts : List Expr) : Bool := !(ts.all (locLine S (lineOf ts)))
def parTg (S : SC) : Expr → Bool
  | .Tuple ts _ _ => parB S ts
  | _ => false
/-- an except suite's body -/
def chkH : Ss → List Stmt → Bool
  | .cons (.ret (.str a)) .nil, [.Return (some (.Constant (.str b) _ _)) _] => decide (a = b)
  | .cons (.ret (.bl a)) .nil, [.Return (some (.Constant (.bool b) _ _)) _] => a == b
  | .cons (.ret (.int a)) .nil, [.Return (some (.Constant (.int b) _ _)) _] => decide (a = b)
  | .cons .pass .nil, [.Pass _] => true
  | _, _ => false
section
variable (nm : Nm)
mutual
def chkS : S → SC → Stmt → Bool
  | .expr e, C, .Expr x _ => chkE nm e C x && !isComp x
  | .asg t e, C, .Assign [tg] x _ => chkT t C tg && (chkE nm e C x && (!(isTupX tg && isTupX x) || parTg C tg))
  | .par ts es, C, .Assign [.Tuple tgs _ _] (.Tuple xs _ _) _ => (match tsNm ts with
    | some is => nmsB C is tgs && (chkL nm es C xs && (decide (is.length ≤ 1000) && (parA C is tgs xs || (decide (tgs.length = xs.length) && parB C tgs))))
    | none => false)
  | .setix i k e, C, .Assign [.Subscript (.Name x _) sl _] v _ => decide (C.N[i]? = some x) && (visB C x && (plainB x && (chkE nm k C sl && (chkE nm e C v && !isComp v))))
  | .setd i k e, C, .Assign [.Subscript (.Name x _) sl _] v _ => decide (C.N[i]? = some x) && (visB C x && (plainB x && (chkE nm k C sl && (chkE nm e C v && !isComp v))))
  | .aug i op e, C, .AugAssign (.Name x _) op' v _ => decide (op = op') && (decide (C.N[i]? = some x) && (locB C x && chkE nm e C v))
  | .augix i op k e, C, .AugAssign (.Subscript (.Name x _) sl _) op' v _ => decide (op = op') && (decide (C.N[i]? = some x) && (visB C x && (plainB x && (chkE nm k C sl && chkE nm e C v))))
  | .ret e, C, .Return (some x) _ => chkE nm e C x
  | .retN, _, .Return none _ => true
  | .cond t a b, C, .If u xs ys _ => chkE nm t C u && (chkB a C xs && chkB b C ys)
  | .whl t b, C, .While u xs [] _ => chkE nm t C u && chkB b C xs
  | .loop t it b, C, .For tg iter xs [] _ => chkT t C tg && (chkI nm it C tg iter && chkB b C xs)
  | .pass, _, .Pass _ => true
  | .cont, _, .Continue _ => true
  | .brk, _, .Break _ => true
  | .raise c, C, .Raise (some (.Call (.Name x _) [.Constant (.str _) _ _] [] _)) none _ => decide (nm.xc[c]? = some x) && (glB C x && plainB x)
  | .try1 b c h, C, .Try xs [.ExceptHandler (some (.Name x _)) none ys _] [] [] _ => decide (nm.xc[c]? = some x) && (glB C x && (plainB x && (chkB b C xs && chkH h ys)))
  | _, _, _ => false
def chkB : Ss → SC → List Stmt → Bool
  | .nil, _, [] => true
  | .cons s ss, C, st :: sts => chkS s C st && chkB ss C sts
  | .clr _ ss, C, sts => chkB ss C sts
  | .frz _ ss, C, sts => chkB ss C sts
  | _, _, _ => false
end
end
/-! ### ends -/
section
variable {G : Adr} {nm : Nm} {tb : Tab} {cf : CF} {k : Nat} {C : SC} {X : Cx} {T : Nat → Addr → Prop} {W : WX} {F0 H0 F H : Hp} {B : Addr → Prop} {σ : St} {env : Env}
/-- what is wanted behind a statement -/
def GoS (G : Adr) (T : Nat → Addr → Prop) (W : WX) (F0 H0 : Hp) (B : Addr → Prop) (o : Option SO) (D : Ends) : Prop := match o with
  | none => False
  | some (.nx e) => ∀ F' σ' H', Cond G T F0 H0 B F' σ' H' e → D.nx σ' H'
  | some (.bk e) => ∀ F' σ' H', Cond G T F0 H0 B F' σ' H' e → D.bk σ' H'
  | some (.ct e) => ∀ F' σ' H', Cond G T F0 H0 B F' σ' H' e → D.ct σ' H'
  | some (.rt r e) => ∀ F' σ' H' v, Cond G T F0 H0 B F' σ' H' e → PRes G F' σ' H' e (Fz H0 B) r v → D.rt v H'
  | some (.ex x e) => ∀ F' σ' H' cls d, Cond G T F0 H0 B F' σ' H' e → XR G H' x cls d → W cls d σ' H'
def tS (G : Adr) (T : Nat → Addr → Prop) (W : WX) (m : Env → Option SO) : TS := fun D σ H => ∃ F0 H0 B F env, Cond G T F0 H0 B F σ H env ∧ GoS G T W F0 H0 B (m env) D
theorem PRes.mono {r : PR} {v : V} {Z Z' : Addr → Prop} (h : PRes G F σ H env Z r v) (z : ∀ a, Z a → Z' a) : PRes G F σ H env Z' r v := by
  cases r with
  | v d => exact h
  | fr o =>
    obtain ⟨a, u, h1, h2, h3, h4, h5, h6⟩ := h
    exact ⟨a, u, h1, h2, h3, h4, z _ h5, h6⟩
/-- from the state as it is -/
theorem GoS.rebase {F1 H1 : Hp} {σ1 : St} {env1 : Env} {o : Option SO} {D : Ends} (C : Cond G T F0 H0 B F1 σ1 H1 env1) (h : GoS G T W F0 H0 B o D) : GoS G T W F1 H1 (Own σ1 env1) o D := by
  unfold GoS at h ⊢
  cases o with
  | none => exact h
  | some s =>
    cases s with
    | nx e => exact fun F' σ' H' c => h F' σ' H' (C.trans c)
    | bk e => exact fun F' σ' H' c => h F' σ' H' (C.trans c)
    | ct e => exact fun F' σ' H' c => h F' σ' H' (C.trans c)
    | rt r e => exact fun F' σ' H' v c p => h F' σ' H' v (C.trans c) (p.mono fun a => C.fz)
    | ex x e => exact fun F' σ' H' cls d c xr => h F' σ' H' cls d (C.trans c) xr
theorem GoS.mono {W' : WX} {o : Option SO} {D D' : Ends} (h : GoS G T W F0 H0 B o D) (hn : ∀ σ H, D.nx σ H → D'.nx σ H) (hr : ∀ v H, D.rt v H → D'.rt v H) (hb : ∀ σ H, D.bk σ H → D'.bk σ H) (hc : ∀ σ H, D.ct σ H → D'.ct σ H) (hw : ∀ cls d σ H, W cls d σ H → W' cls d σ H) : GoS G T W' F0 H0 B o D' := by
  unfold GoS at h ⊢
  cases o with
  | none => exact h
  | some s =>
    cases s with
    | nx e => exact fun F' σ' H' c => hn _ _ (h F' σ' H' c)
    | bk e => exact fun F' σ' H' c => hb _ _ (h F' σ' H' c)
    | ct e => exact fun F' σ' H' c => hc _ _ (h F' σ' H' c)
    | rt r e => exact fun F' σ' H' v c p => hr _ _ (h F' σ' H' v c p)
    | ex x e => exact fun F' σ' H' cls d c xr => hw _ _ _ _ (h F' σ' H' cls d c xr)
/-- an expression's part of a statement -/
theorem stepE {α γ : Type} {R' : Rl α γ} {m : M α} {f : α → Env → Option SO} {D : Ends} (C : Cond G T F0 H0 B F σ H env) (g : GoS G T W F0 H0 B (runM m env f) D) :
    tM G T W R' m σ H (fun c H1 => ∃ F1 env1 a, Cond G T F0 H0 B F1 σ H1 env1 ∧ Same F F1 ∧ R' (Fz H (Own σ env)) F1 σ H1 env1 a c ∧ GoS G T W F0 H0 B (f a env1) D) := by
  refine ⟨F, H, Own σ env, F, env, C.now.self, ?_⟩
  unfold runM at g
  cases e : m env with
  | none => rw [e] at g; exact g
  | some o =>
    rw [e] at g
    cases o with
    | ex x e' => exact fun F' H' cls d c xr => g F' σ H' cls d (C.trans c) xr
    | ok a e' => exact fun F' H' v c r => ⟨F', e', a, C.trans c, c.ext.s0, r, g⟩
/-- one statement, then the rest -/
theorem stepS {s : Env → Option SO} {ss : Env → Option SO} {D : Ends} (C : Cond G T F0 H0 B F σ H env) (g : GoS G T W F0 H0 B (match s env with
    | some (.nx e) => ss e
    | r => r) D) : tS G T W s { D with nx := tS G T W ss D } σ H := by
  refine ⟨F0, H0, B, F, env, C, ?_⟩
  cases e : s env with
  | none => rw [e] at g; exact g
  | some o =>
    rw [e] at g
    cases o with
    | nx e' => exact fun F' σ' H' c => ⟨F0, H0, B, F', e', c, g⟩
    | bk e' => exact g
    | ct e' => exact g
    | rt r e' => exact g
    | ex x e' => exact g
mutual
theorem asgT_noex : ∀ (t : Ev.T) {r : R} {env : Env} x e, asgT t r env ≠ some (.ex x e)
  | .nm i, r, env, x, e, h => putR_noex x e h
  | .tp ts, r, env, x, e, h => by
    have h : (match (cont env r).bind unpD with
      | some l => if l.length = ts.len then asgTs ts l env else none
      | none => none) = some (.ex x e) := h
    cases q : (cont env r).bind unpD with
    | none => rw [q] at h; cases h
    | some l =>
      rw [q] at h
      have h : (if l.length = ts.len then asgTs ts l env else none) = some (.ex x e) := h
      split at h
      · exact asgTs_noex ts x e h
      · cases h
theorem asgTs_noex : ∀ (ts : Ts) {ds : List D} {env : Env} x e, asgTs ts ds env ≠ some (.ex x e)
  | .nil, ds, env, x, e, h => by cases h
  | .cons t ts, [], env, x, e, h => by cases h
  | .cons t ts, d :: ds, env, x, e, h => by
    rcases bnd_some (show bnd (asgT t (.v d)) (fun _ => asgTs ts ds) env = some (.ex x e) from h) with ⟨x', e', q, _⟩ | ⟨u, e', _, q⟩
    · exact asgT_noex t _ _ q
    · exact asgTs_noex ts _ _ q
end
/-- the store of a target -/
theorem go_asg {t : Ev.T} {r : R} {x : V} {D : Ends} (C : Cond G T F0 H0 B F σ H env) (h : HR G (Fz H0 B) F σ H env r x) {P : St → Hp → Prop} (go : match asgT t r env with
    | some (.ok _ e) => ∀ F' σ', Cond G T F0 H0 B F' σ' H e → Same F F' → P σ' H
    | _ => False) : tG G T t x σ H P := by
  refine ⟨F0, H0, B, F, env, r, C, h, ?_⟩
  unfold GoU
  cases e : asgT t r env with
  | none => rw [e] at go; exact go
  | some o =>
    rw [e] at go
    cases o with
    | ex x e' => exact go
    | ok u e' => exact fun F' σ' c s _ => go F' σ' c s
theorem runM_bnd {α β : Type} {m : M α} {f : α → M β} {k : β → Env → Option SO} : runM (bnd m f) env k = runM m env fun a e => runM (f a) e k := by
  unfold runM bnd
  cases m env with
  | none => rfl
  | some o => cases o <;> rfl
theorem asg_red {t : Ev.T} {m : M R} {D : Ends} (h : tS G T W (fun env => runM (bnd m (asgT t)) env fun _ e => some (.nx e)) D σ H) : tAsg (tR G T W m) (tG G T t) D σ H := by
  obtain ⟨F0, H0, B, F, env, C, go⟩ := h
  have go : GoS G T W F0 H0 B (runM m env fun r e => runM (asgT t r) e fun _ e => some (.nx e)) D := by
    rw [← runM_bnd]; exact go
  refine tM_mono (stepE C go) fun x H1 ⟨F1, env1, r, C1, s1, h1, go1⟩ => ?_
  refine go_asg (D := D) C1 (h1.mono fun a => C.fz) ?_
  unfold runM at go1
  cases e : asgT t r env1 with
  | none => rw [e] at go1; exact go1
  | some o =>
    rw [e] at go1
    cases o with
    | ex x e' => exact absurd e (asgT_noex t _ _)
    | ok u e' => exact fun F' σ' c s => go1 F' σ' H1 c
end
end Ev

set_option Elab.async false
set_option linter.all false
set_option maxRecDepth 100000
set_option maxHeartbeats 1000000
/-! The statements. -/
namespace Ev
open PySem PySem.Spec L2
open PyProof.Rows hiding St
section
variable {G : Adr} {nm : Nm} {tb : Tab} {cf : CF} {k : Nat} {C : SC} {X : Cx} {T : Nat → Addr → Prop} {W : WX} {F0 H0 F H : Hp} {B : Addr → Prop} {σ : St} {env : Env}
/-- a def's body -/
structure Bod (X : Cx) (W : WX) : Prop where
  tk : Takes X W
  po : PassesOwn (model X.prog X.w) X.A X.env X.xe
  hs : X.stack = X.env :: X.outer
  hf : X.env.frame = some X.env.locals
theorem Good.tr (g : Good G nm tb cf k C X) (pn : List (Addr × Obj)) (xe : Value → Shared → Prop) : Good G nm tb cf k C (X.tr pn xe) :=
  ⟨g.hK, g.hw, g.hN, g.nd, g.hs, g.hf, g.calm, g.room, g.gd, g.fns, g.glo⟩
/-! ### what comes back -/
theorem ret_res {r : R} {x : V} {p : PR} (C : Cond G T F0 H0 B F σ H env) (h : HR G (Fz H0 B) F σ H env r x) (e : outR env r = some p) : PRes G F σ H env (Fz H0 B) p x := by
  cases h with
  | v h => cases e; exact h
  | fr h1 h2 h3 h4 h5 => cases e; exact ⟨_, _, rfl, h1, h2, h3, h5, fun i o' q1 q2 => h4 ⟨i, true, o', q1, q2⟩⟩
  | ow h =>
    rename_i i
    have e : (match env[i]? with
      | some (Sl.v d) => some (PR.v d)
      | some (Sl.ow false o) => some (PR.fr o)
      | _ => none) = some p := e
    cases q : env[i]? with
    | none => rw [q] at e; cases e
    | some s =>
      rw [q] at e
      obtain ⟨y, h1, h2⟩ := C.now.sl i s q
      rw [h] at h1
      cases h1
      cases h2 with
      | un => first | (cases q2; done) | (cases e; done) | (cases e1; done) | (cases h; done) | (cases q; done) | contradiction
      | v r => cases e; exact r
      | @ow a b o u k1 k2 k3 =>
        cases b with
        | true => cases e
        | false =>
          cases e
          refine ⟨a, u, rfl, k1, k2, k3, C.ext.own a ⟨i, false, o, h, q⟩, fun j o' q1 q2 => ?_⟩
          have := C.now.inj i j a false true o o' h q1 q q2
          subst this
          rw [q] at q2
          cases q2
/-! ### single stores -/
theorem tG_nm {i : Nat} {v : V} {Q : St → Hp → Prop} (h : tG G T (.nm i) v σ H Q) : Q (σ.set i (some v)) H := by
  obtain ⟨F0, H0, B, F, env, r, C, hr, go⟩ := h
  have go : GoU G T F0 H0 B [i] F σ H (putR i r env) Q := go
  cases q : putR i r env with
  | none => rw [q] at go; exact go.elim
  | some o =>
    rw [q] at go
    cases o with
    | ex x e => exact go.elim
    | ok u e =>
      obtain ⟨F', C', sf⟩ := putR_ok C hr q
      exact go F' _ C' sf (Chg.set List.mem_cons_self)
theorem sw_no {x : Expr} {t : Option Expr} {l : Nat} {env : PySem.Env} (h : isComp x = false) : swapsWith x t l env = pure false := by
  cases x <;> first
    | rfl
    | cases h
theorem sw_tup {x : Expr} {es : List Expr} {kk : Nat} {p : Pos} {l : Nat} {env : PySem.Env} : swapsWithSole [.Tuple es kk p] x l env = pure false := by
  cases x <;> rfl
theorem st_none {x : Expr} {es : List Expr} {kk : Nat} {p : Pos} {env : PySem.Env} (h : isTupX x = false) : swappedStores [.Tuple es kk p] x env = pure none := by
  cases x <;> first
    | rfl
    | cases h
theorem sw_comp {elt : Expr} {gs : List Comprehension} {scope : Scope} {pos py : Pos} {y : Str} {l : Nat} {env : PySem.Env} (hk : env.scope.kind = .function) (hs : env.scope = C.sc) :
    swapsWith (.ListComp elt gs scope pos) (some (.Name y py)) l env = pure (swB C y py (.ListComp elt gs scope pos)) := by
  have hb : env.blockKind = .function := by unfold Env.blockKind; rw [hk]; rfl
  have ky : env.kindOf y = C.sc.names.lookup y := by rw [← hs]; rfl
  unfold swapsWith swB
  simp only [hb, ky, Expr.pos]
  simp [Bool.and_assoc]
/-! ### several names -/
theorem unOw_noex {r : R} {env : Env} : ∀ x e, unOw r env ≠ some (.ex x e) := by
  intro x e h
  cases r with
  | v d => cases h
  | fr o => cases h
  | ow j =>
    rcases bnd_some (show bnd (frz (.ow j)) (fun d => ret (R.v d)) env = some (.ex x e) from h) with ⟨x', e', q, _⟩ | ⟨a, e', _, q⟩
    · exact frz_noex _ _ _ _ q
    · cases q
theorem unOwL_noex : ∀ {rs : List R} {env : Env} x e, unOwL rs env ≠ some (.ex x e)
  | [], _, _, _, h => by cases h
  | r :: rs, env, x, e, h => by
    rcases bnd_some (show bnd (unOw r) (fun d => bnd (unOwL rs) fun ds => ret (d :: ds)) env = some (.ex x e) from h) with ⟨x', e', q, _⟩ | ⟨a, e', _, q⟩
    · exact unOw_noex _ _ q
    · rcases bnd_some q with ⟨x', e2, q2, _⟩ | ⟨as, e2, _, q2⟩
      · exact unOwL_noex _ _ q2
      · cases q2
def notOw : R → Prop
  | .ow _ => False
  | _ => True
theorem aparts_val {x : V} {d : D} : ∀ {rs : List R} {xs : List V}, HRs G B F σ H env rs xs → Aparts (.v d) x rs xs
  | _, _, .nil => trivial
  | _, _, .cons _ _ t => ⟨trivial, aparts_val t⟩
theorem unOwL_ok : ∀ {rs rs' : List R} {xs : List V} {F : Hp} {env env' : Env}, Cond G T F0 H0 B F σ H env → HRs G (Fz H0 B) F σ H env rs xs → unOwL rs env = some (.ok rs' env') →
    ∃ F', Cond G T F0 H0 B F' σ H env' ∧ Same F F' ∧ HRs G (Fz H0 B) F' σ H env' rs' xs ∧ (∀ r ∈ rs', notOw r) ∧ ∀ Z r' x', HR G Z F σ H env r' x' → (∀ j, r' ≠ .ow j) → HR G Z F' σ H env' r' x'
  | [], rs', _, F, env, env', C, .nil, e => by cases e; exact ⟨F, C, Same.refl _, .nil, fun _ h => (nomatch h), fun _ _ _ h _ => h⟩
  | r :: rs, rs', _, F, env, env', C, .cons (x := x) (xs := xs) h ap t, e => by
    rcases bnd_some (show bnd (unOw r) (fun d => bnd (unOwL rs) fun ds => ret (d :: ds)) env = some (.ok rs' env') from e) with ⟨_, _, _, z⟩ | ⟨r1, e1, q, e⟩
    · cases z
    · have key : ∃ F1, Cond G T F0 H0 B F1 σ H e1 ∧ Same F F1 ∧ HR G (Fz H0 B) F1 σ H e1 r1 x ∧ HRs G (Fz H0 B) F1 σ H e1 rs xs ∧ Aparts r1 x rs xs ∧ notOw r1 ∧ ∀ Z r' x', HR G Z F σ H env r' x' → (∀ j, r' ≠ .ow j) → HR G Z F1 σ H e1 r' x' := by
        cases r with
        | v d => cases q; exact ⟨F, C, Same.refl _, h, t, ap, trivial, fun _ _ _ h _ => h⟩
        | fr o => cases q; exact ⟨F, C, Same.refl _, h, t, ap, trivial, fun _ _ _ h _ => h⟩
        | ow j =>
          rcases bnd_some (show bnd (frz (.ow j)) (fun d => ret (R.v d)) env = some (.ok r1 e1) from q) with ⟨_, _, _, z⟩ | ⟨d, e2, q1, q2⟩
          · cases z
          · cases q2
            obtain ⟨F1, C1, h1, sf, l⟩ := frz_ok C h q1
            have t1 := frz_oks (d := d) l t ap
            exact ⟨F1, C1, sf, .v h1, t1, aparts_val t1, trivial, fun Z r' x' h' _ => l Z r' x' h' trivial⟩
      obtain ⟨F1, C1, sf, h1, t1, ap1, no1, keep⟩ := key
      rcases bnd_some e with ⟨_, _, _, z⟩ | ⟨rs1, e2, q1, q2⟩
      · cases z
      · cases q2
        obtain ⟨F2, C2, sf2, r2, no2, keep2⟩ := unOwL_ok C1 t1 q1
        have hn : ∀ j, r1 ≠ .ow j := fun j z => by rw [z] at no1; exact no1
        refine ⟨F2, C2, sf.trans sf2, .cons (keep2 _ _ _ h1 hn) ?_ r2, fun r hr => ?_, fun Z r' x' h' hn' => keep2 _ _ _ (keep _ _ _ h' hn') hn'⟩
        · -- apart
          have : ∀ {rs rs1 : List R} {xs : List V} {e1 e2 : Env}, Aparts r1 x rs xs → unOwL rs e1 = some (.ok rs1 e2) → Aparts r1 x rs1 xs := by
            intro rs
            induction rs with
            | nil => intro rs1 xs e1 e2 ap q; cases q; exact ap
            | cons r rs ih =>
              intro rs1 xs e1 e2 ap q
              rcases bnd_some (show bnd (unOw r) (fun d => bnd (unOwL rs) fun ds => ret (d :: ds)) e1 = some (.ok rs1 e2) from q) with ⟨_, _, _, z⟩ | ⟨ra, ea, qa, q⟩
              · cases z
              · rcases bnd_some q with ⟨_, _, _, z⟩ | ⟨rb, eb, qb, q⟩
                · cases z
                · cases q
                  cases xs with
                  | nil => trivial
                  | cons y xs =>
                    refine ⟨?_, ih ap.2 qb⟩
                    cases r with
                    | v d => cases qa; exact ap.1
                    | fr o => cases qa; exact ap.1
                    | ow j =>
                      rcases bnd_some (show bnd (frz (.ow j)) (fun d => ret (R.v d)) e1 = some (.ok ra ea) from qa) with ⟨_, _, _, z⟩ | ⟨d, e3, _, q2⟩
                      · cases z
                      · cases q2
                        cases r1 <;> trivial
          exact this ap1 q1
        · rcases List.mem_cons.mp hr with z | hr
          · rw [z]; exact no1
          · exact no2 r hr
theorem HRs.set {Z : Addr → Prop} {i : Nat} {x : V} {s : Sl} {r : R} (hx : ∀ a, (∃ b o, s = .ow b o) → x = .ref a → ∃ o, r = .fr o) : ∀ {rs : List R} {ys : List V}, HRs G Z F σ H env rs ys → Aparts r x rs ys → (∀ r ∈ rs, notOw r) → HRs G Z F (σ.set i (some x)) H (env.set i s) rs ys
  | _, _, .nil, _, _ => .nil
  | r' :: rs, y :: ys, .cons h a t, ap, no => by
    refine .cons (h.set (fun j z => ?_) fun b hb e o er => ?_) a (HRs.set hx t ap.2 fun r hr => no r (List.mem_cons_of_mem _ hr))
    · have := no r' List.mem_cons_self
      rw [z] at this; exact this
    · obtain ⟨o', e'⟩ := hx b hb e
      have := ap.1
      rw [e', er] at this
      intro z
      exact this (by rw [e, z])
theorem par_ok : ∀ {ts : Ts} {is : List Nat} {rs : List R} {xs : List V} {F : Hp} {σ : St} {env e : Env} {u : Unit}, tsNm ts = some is → Cond G T F0 H0 B F σ H env → HRs G (Fz H0 B) F σ H env rs xs → (∀ r ∈ rs, notOw r) → asgRs ts rs env = some (.ok u e) →
    xs.length = is.length ∧ ∃ F', Cond G T F0 H0 B F' (setAll σ is xs) H e
  | .nil, is, rs, xs, F, σ, env, e, u, hn, C, h, no, q => by
    cases hn
    cases h with
    | nil => cases q; exact ⟨rfl, F, C⟩
    | cons _ _ _ => cases q
  | .cons (.tp _) _, is, rs, xs, F, σ, env, e, u, hn, C, h, no, q => by cases hn
  | .cons (.nm i) ts, is, rs, xs, F, σ, env, e, u, hn, C, h, no, q => by
    have hn : (tsNm ts).map (i :: ·) = some is := hn
    cases q0 : tsNm ts with
    | none => rw [q0] at hn; cases hn
    | some is' =>
      rw [q0] at hn
      cases hn
      cases h with
      | nil => cases q
      | @cons r rs x xs h ap t =>
        rcases bnd_some (show bnd (asgT (.nm i) r) (fun _ => asgRs ts rs) env = some (.ok u e) from q) with ⟨_, _, _, z⟩ | ⟨u1, e1, q1, q⟩
        · cases z
        · have q1 : putR i r env = some (.ok u1 e1) := q1
          have no' : ∀ r ∈ rs, notOw r := fun r hr => no r (List.mem_cons_of_mem _ hr)
          have key : ∃ F1, Cond G T F0 H0 B F1 (σ.set i (some x)) H e1 ∧ HRs G (Fz H0 B) F1 (σ.set i (some x)) H e1 rs xs := by
            cases r with
            | ow j => exact (no _ List.mem_cons_self).elim
            | v d =>
              obtain ⟨rfl, _⟩ := store_env q1
              cases h with
              | v h => exact ⟨F, C.set (.v h) (fun _ z => nomatch z) (fun a ⟨b, o, z⟩ => nomatch z), HRs.set (r := .v d) (fun a ⟨b, o, z⟩ => nomatch z) t ap no'⟩
            | fr o =>
              obtain ⟨rfl, _⟩ := store_env q1
              cases h with
              | fr h1 h2 h3 h4 h5 =>
                refine ⟨F, C.set (.ow h1 h2 h3) (fun _ z => by cases z) (fun a _ z => ?_), HRs.set (r := .fr o) (fun a _ _ => ⟨o, rfl⟩) t ap no'⟩
                cases z
                exact ⟨h5, fun j b o q1 q2 => absurd ⟨j, b, o, q1, q2⟩ h4⟩
          obtain ⟨F1, C1, t1⟩ := key
          obtain ⟨l, F2, C2⟩ := par_ok q0 C1 t1 no' q
          exact ⟨congrArg (· + 1) l, F2, C2⟩
theorem asgRs_noex : ∀ {ts : Ts} {rs : List R} {env : Env} x e, asgRs ts rs env ≠ some (.ex x e)
  | .nil, [], env, x, e, h => by cases h
  | .nil, _ :: _, env, x, e, h => by cases h
  | .cons t ts, [], env, x, e, h => by cases h
  | .cons t ts, r :: rs, env, x, e, h => by
    rcases bnd_some (show bnd (asgT t r) (fun _ => asgRs ts rs) env = some (.ex x e) from h) with ⟨x', e', q, _⟩ | ⟨u, e', _, q⟩
    · exact asgT_noex t _ _ q
    · exact asgRs_noex _ _ q
theorem par_red {ts : Ts} {is : List Nat} {ml : M (List R)} {D : Ends} (hn : tsNm ts = some is) (h : tS G T W (fun env => runM (bnd (bnd ml unOwL) (asgRs ts)) env fun _ e => some (.nx e)) D σ H) : tParN is (tL G T W ml) D σ H := by
  obtain ⟨F0, H0, B, F, env, C, go⟩ := h
  rw [bnd_assoc] at go
  have go : GoS G T W F0 H0 B (runM (bnd ml fun a => bnd (unOwL a) (asgRs ts)) env fun _ e => some (.nx e)) D := go
  rw [runM_bnd] at go
  refine tM_mono (stepE C go) fun xs H1 ⟨F1, env1, rs, C1, s1, h1, go1⟩ => ?_
  rw [runM_bnd] at go1
  have h1 := h1.mono fun a => C.fz
  unfold runM at go1
  cases e : unOwL rs env1 with
  | none => rw [e] at go1; exact go1.elim
  | some o =>
    rw [e] at go1
    cases o with
    | ex x e' => exact absurd e (unOwL_noex _ _)
    | ok rs' e' =>
      obtain ⟨F2, C2, sf, h2, no, _⟩ := unOwL_ok C1 h1 e
      simp only at go1
      cases e2 : asgRs ts rs' e' with
      | none => rw [e2] at go1; exact go1.elim
      | some o =>
        rw [e2] at go1
        cases o with
        | ex x e3 => exact absurd e2 (asgRs_noex _ _)
        | ok u e3 =>
          obtain ⟨l, F3, C3⟩ := par_ok hn C2 h2 no e2
          exact ⟨l, go1 F3 _ H1 C3⟩
end
end Ev

set_option Elab.async false
set_option linter.all false
set_option maxRecDepth 100000
set_option maxHeartbeats 2000000
/-! The statements. -/
namespace Ev
open PySem PySem.Spec L2
open PyProof.Rows hiding St
section
variable {G : Adr} {nm : Nm} {tb : Tab} {cf : CF} {k : Nat} {C : SC} {X : Cx} {T : Nat → Addr → Prop} {W : WX} {F0 H0 F H : Hp} {B : Addr → Prop} {σ : St} {env : Env}
/-! ### two or three names -/
theorem loc_line {S : SC} {l : Nat} {e : Expr} (h : locLine S l e = true) : ∃ x p, e = .Name x p ∧ S.sc.names.lookup x = some .local ∧ (p.line == l) = true := by
  cases e with
  | Name x p =>
    obtain ⟨h1, h2⟩ := and1 h
    exact ⟨x, p, rfl, eq_of_beq h1, h2⟩
  | _ => cases h
theorem blk_fn {env : PySem.Env} (hk : env.scope.kind = .function) : env.blockKind = .function := by unfold Env.blockKind; rw [hk]; rfl
theorem no_star_any {es : List Expr} (h : ∀ x ∈ es, noStar x = true) : (es.any fun | .Starred .. => true | _ => false) = false := by
  rw [List.any_eq_false]
  intro x hx
  have := h x hx
  cases x <;> first
    | (intro z; cases z; done)
    | (cases this)
theorem star_eq {a : Expr} : noStar a = true → (match a with | .Starred .. => true | _ => false) = false := by
  intro h
  cases a <;> first
    | rfl
    | cases h
theorem tf {b : Bool} (h : b = true) (h' : b = false) : False := by rw [h] at h'; cases h'
theorem sw2 {x y : Str} {px py pt pt2 : Pos} {a b : Expr} {kt k2 : Nat} {env : PySem.Env} (hk : env.scope.kind = .function) (hx : env.scope.names.lookup x = some .local) (hy : env.scope.names.lookup y = some .local) (hl : (py.line == px.line) = true) (hxy : x ≠ y)
    (hst : ∀ e ∈ [a, b], noStar e = true) (h1 : ([a, b].all (foldedForSure 8)) = false) (h2 : ([a, b].all (constantsAlone 8)) = false) :
    swappedStores [.Tuple [.Name x px, .Name y py] kt pt] (.Tuple [a, b] k2 pt2) env = pure (some [x, y]) := by
  have hb := blk_fn hk
  have kx : env.kindOf x = some .local := hx
  have ky : env.kindOf y = some .local := hy
  have h3 := no_star_any hst
  have hd : ([x, y] : List Str).eraseDups.length = 2 := by
    simp [List.eraseDups_cons, Ne.symm hxy]
  have hl' : (py.line == px.line) = true := hl
  unfold swappedStores
  simp only [List.length_cons, List.length_nil, hb, h3, h1, h2]
  simp only [List.filterMap_cons, List.filterMap_nil, kx, ky, List.head?_cons, Option.map_some, Option.getD_some, Expr.pos, hl']
  simp [hd]
  rintro (z | z)
  · exact (tf z (star_eq (hst a (by simp)))).elim
  · exact (tf z (star_eq (hst b (by simp)))).elim
theorem sw3 {x y z : Str} {px py pz pt pt2 : Pos} {a b c : Expr} {kt k2 : Nat} {env : PySem.Env} (hk : env.scope.kind = .function) (hx : env.scope.names.lookup x = some .local) (hy : env.scope.names.lookup y = some .local) (hz : env.scope.names.lookup z = some .local) (hl : (py.line == px.line) = true) (hl2 : (pz.line == px.line) = true) (hxy : x ≠ y) (hxz : x ≠ z) (hyz : y ≠ z)
    (hst : ∀ e ∈ [a, b, c], noStar e = true) (h1 : ([a, b, c].all (foldedForSure 8)) = false) (h2 : ([a, b, c].all (constantsAlone 8)) = false) :
    swappedStores [.Tuple [.Name x px, .Name y py, .Name z pz] kt pt] (.Tuple [a, b, c] k2 pt2) env = pure (some [x, y, z]) := by
  have hb := blk_fn hk
  have kx : env.kindOf x = some .local := hx
  have ky : env.kindOf y = some .local := hy
  have kz : env.kindOf z = some .local := hz
  have h3 := no_star_any hst
  have hd : ([x, y, z] : List Str).eraseDups.length = 3 := by
    simp [List.eraseDups_cons, Ne.symm hxy, Ne.symm hxz, Ne.symm hyz]
  unfold swappedStores
  simp only [List.length_cons, List.length_nil, hb, h3, h1, h2]
  simp only [List.filterMap_cons, List.filterMap_nil, kx, ky, kz, List.head?_cons, Option.map_some, Option.getD_some, Expr.pos, hl, hl2]
  simp [hd]
  rintro (z | z | z)
  · exact (tf z (star_eq (hst a (by simp)))).elim
  · exact (tf z (star_eq (hst b (by simp)))).elim
  · exact (tf z (star_eq (hst c (by simp)))).elim
theorem swN {ts es : List Expr} {S : SC} {pt pt2 : Pos} {kt k2 : Nat} {env : PySem.Env} (hs : env.scope = S.sc) (h : parB S ts = true) : swappedStores [.Tuple ts kt pt] (.Tuple es k2 pt2) env = pure none := by
  unfold swappedStores
  simp only
  split
  · rfl
  · split
    · rfl
    · split
      · rfl
      · rename_i hn
        exfalso
        simp only [Bool.or_eq_true, bne_iff_ne, ne_eq, not_or, Decidable.not_not] at hn
        have hall := List.filterMap_length_eq_length.mp hn.1
        have key : ts.all (locLine S (lineOf ts)) = true := by
          have isN : ∀ t ∈ ts, ∃ x p, t = .Name x p := fun t ht => by
            have := hall t ht
            cases t <;> first
              | exact ⟨_, _, rfl⟩
              | cases this
          have hline : (Option.map (fun x => x.pos.line) ts.head?).getD 0 = lineOf ts := by
            cases ts with
            | nil => rfl
            | cons t ts =>
              obtain ⟨x, p, rfl⟩ := isN t List.mem_cons_self
              rfl
          rw [List.all_eq_true]
          intro t ht
          have h2 := hall t ht
          obtain ⟨x, p, rfl⟩ := isN t ht
          simp only at h2
          rw [hline] at h2
          have hk : env.kindOf x = S.sc.names.lookup x := by rw [← hs]; rfl
          rw [hk] at h2
          show ((S.sc.names.lookup x == some .local) && (p.line == lineOf ts)) = true
          split at h2
          · rename_i q; exact q
          · cases h2
        unfold parB at h
        rw [key] at h
        cases h
theorem nms_ok (g : Good G nm tb cf k C X) : ∀ {is : List Nat} {ts : List Expr}, nmsB C is ts = true → NmsOk X is ts
  | [], [], _ => .nil
  | [], _ :: _, h => by cases h
  | _ :: _, [], h => by cases h
  | i :: is, t :: ts, h => by
    cases t with
    | Name x p =>
      obtain ⟨h1, h⟩ := and1 (show (decide (C.N[i]? = some x) && (locB C x && nmsB C is ts)) = true from h)
      obtain ⟨h2, h3⟩ := and1 h
      obtain ⟨l1, l2⟩ := g.loc h2
      exact .cons (by rw [g.hN]; exact of_decide_eq_true h1) l1 l2 (nms_ok g h3)
    | _ => cases h
end
end Ev

set_option Elab.async false
set_option linter.all false
set_option maxRecDepth 100000
set_option maxHeartbeats 2000000
/-! The statements: all of them. -/
namespace Ev
open PySem PySem.Spec L2
open PyProof.Rows hiding St
section
variable {G : Adr} {nm : Nm} {tb : Tab} {cf : CF} {k : Nat} {C : SC} {X : Cx} {T : Nat → Addr → Prop} {W : WX} {F0 H0 F H : Hp} {B : Addr → Prop} {σ : St} {env : Env}
/-! ### setting an item, op= -/
theorem stepP {α γ : Type} {R' : Rl α γ} {m : M α} {f : α → Env → Option SO} {D : Ends} {P : Hd} (st : Stable G T P) (C : Cond G T F0 H0 B F σ H env) (hP : P F σ H env) (g : GoS G T W F0 H0 B (runM m env f) D) :
    tM G T W R' m σ H (fun c H1 => ∃ F1 env1 a, Cond G T F0 H0 B F1 σ H1 env1 ∧ P F1 σ H1 env1 ∧ R' (Fz H (Own σ env)) F1 σ H1 env1 a c ∧ GoS G T W F0 H0 B (f a env1) D) := by
  refine ⟨F, H, Own σ env, F, env, C.now.self, ?_⟩
  unfold runM at g
  cases e : m env with
  | none => rw [e] at g; exact g
  | some o =>
    rw [e] at g
    cases o with
    | ex x e' => exact fun F' H' cls d c xr => g F' σ H' cls d (C.trans c) xr
    | ok a e' => exact fun F' H' v c r => ⟨F', e', a, C.trans c, st _ _ _ _ _ _ _ hP C.now c, r, g⟩
theorem setIx_noex {i : Nat} {n : Int} {d : D} : ∀ x e, setIx i n d env ≠ some (.ex x e) := by
  intro x e h
  unfold setIx at h
  split at h
  · split at h <;> cases h
  · cases h
theorem setix_red {i : Nat} {mv mk : M R} {D : Ends} (h : tS G T W (fun env => runM (bnd mv fun x => bnd (frz x) fun d => bnd (ownL i) fun _ => bnd mk fun y => bnd (intR y) fun n => setIx i n d) env fun _ e => some (.nx e)) D σ H) :
    tAsg (tR G T W mv) (gSub (tVar i) (tR G T W mk) rSetL) D σ H := by
  obtain ⟨F0, H0, B, F, env, C, go⟩ := h
  have go : GoS G T W F0 H0 B (runM (bnd mv fun x => bnd (frz x) fun d => bnd (ownL i) fun _ => bnd mk fun y => bnd (intR y) fun n => setIx i n d) env fun _ e => some (.nx e)) D := go
  rw [runM_bnd] at go
  refine tM_mono (stepE C go) fun x H1 ⟨F1, env1, r, C1, s1, h1, go1⟩ => ?_
  rw [runM_bnd] at go1
  unfold runM at go1
  cases e : frz r env1 with
  | none => rw [e] at go1; exact go1.elim
  | some o =>
    rw [e] at go1
    cases o with
    | ex x e' => exact absurd e (frz_noex _ _ _ _)
    | ok d env2 =>
      obtain ⟨F2, C2, hd, sf, _⟩ := frz_ok C1 (h1.mono fun a => C.fz) e
      have go2 : GoS G T W F0 H0 B (runM (bnd (ownL i) fun _ => bnd mk fun y => bnd (intR y) fun n => setIx i n d) env2 fun _ e => some (.nx e)) D := go1
      rw [runM_bnd] at go2
      unfold runM ownL at go2
      cases q : env2[i]? with
      | none => rw [q] at go2; exact go2.elim
      | some sl =>
        rw [q] at go2
        obtain ⟨y, k1, k2⟩ := C2.now.sl i sl q
        cases k2 with
        | un => exact go2.elim
        | v z => exact go2.elim
        | @ow a b o u z1 z2 z3 =>
          cases z3 with
          | dct z => exact go2.elim
          | dic _ _ _ z => exact go2.elim
          | lst rl =>
            have go3 : GoS G T W F0 H0 B (runM (bnd mk fun y => bnd (intR y) fun n => setIx i n d) env2 fun _ e => some (.nx e)) D := go2
            rw [runM_bnd] at go3
            refine ⟨.ref a, k1, ?_⟩
            refine tM_mono (stepE C2 go3) fun y H3 ⟨F3, env3, ry, C3, s3, hy, go4⟩ => ?_
            have hd3 := hd.mono s3
            rw [runM_bnd] at go4
            unfold runM intR at go4
            cases q2 : cont env3 ry with
            | none => rw [q2] at go4; exact go4.elim
            | some dy =>
              rw [q2] at go4
              cases dy <;> first
                | exact go4.elim
                | skip
              rename_i n
              have ey := (hy.cont C3.now q2).int
              have go5 := go4
              simp only [Option.bind_some, intD] at go5
              unfold setIx at go5
              cases q3 : env3[i]? with
              | none => rw [q3] at go5; exact go5.elim
              | some sl3 =>
                rw [q3] at go5
                obtain ⟨y3, w1, w2⟩ := C3.now.sl i sl3 q3
                rw [k1] at w1
                cases w1
                cases w2 with
                | un => first | (cases q2; done) | (cases e; done) | (cases e1; done) | (cases h; done) | (cases q; done) | contradiction
                | v z => exact go5.elim
                | @ow a' b' o' u' v1 v2 v3 =>
                  cases v3 with
                  | dct z => exact go5.elim
                  | dic _ _ _ z => exact go5.elim
                  | @lst xs l rl3 =>
                    simp only at go5
                    cases q4 : ixN l.length n with
                    | none => rw [q4] at go5; exact go5.elim
                    | some j =>
                      rw [q4] at go5
                      refine ⟨a, xs, n, j, rfl, ey, v2, by rw [rl3.length]; exact q4, ?_⟩
                      exact go5 F3 σ _ (C3.write q3 k1 v1 (.lst (rl3.set j hd3)))
theorem setDc_noex {i : Nat} {y : R} {d : D} : ∀ x e, setDc i y d env ≠ some (.ex x e) := by
  intro x e h
  unfold setDc at h
  split at h
  · cases h
  · split at h
    · split at h
      · split at h <;> cases h
      · cases h
    · split at h
      · split at h <;> cases h
      · cases h
    · cases h
theorem setd_red {i : Nat} {mv mk : M R} {D : Ends} (h : tS G T W (fun env => runM (bnd mv fun x => bnd (frz x) fun d => bnd (ownD i) fun _ => bnd mk fun y => setDc i y d) env fun _ e => some (.nx e)) D σ H) :
    tAsg (tR G T W mv) (gSub (tVar i) (tR G T W mk) (PSd G)) D σ H := by
  obtain ⟨F0, H0, B, F, env, C, go⟩ := h
  have go : GoS G T W F0 H0 B (runM (bnd mv fun x => bnd (frz x) fun d => bnd (ownD i) fun _ => bnd mk fun y => setDc i y d) env fun _ e => some (.nx e)) D := go
  rw [runM_bnd] at go
  refine tM_mono (stepE C go) fun x H1 ⟨F1, env1, r, C1, s1, h1, go1⟩ => ?_
  rw [runM_bnd] at go1
  unfold runM at go1
  cases e : frz r env1 with
  | none => rw [e] at go1; exact go1.elim
  | some o =>
    rw [e] at go1
    cases o with
    | ex x e' => exact absurd e (frz_noex _ _ _ _)
    | ok d env2 =>
      obtain ⟨F2, C2, hd, sf, _⟩ := frz_ok C1 (h1.mono fun a => C.fz) e
      have go2 : GoS G T W F0 H0 B (runM (bnd (ownD i) fun _ => bnd mk fun y => setDc i y d) env2 fun _ e => some (.nx e)) D := go1
      rw [runM_bnd] at go2
      have hown : ∃ a, σ[i]? = some (some (V.ref a)) ∧ GoS G T W F0 H0 B (runM (bnd mk fun y => setDc i y d) env2 fun _ e => some (.nx e)) D := by
        unfold runM ownD at go2
        cases q : env2[i]? with
        | none => rw [q] at go2; exact go2.elim
        | some sl =>
          rw [q] at go2
          obtain ⟨y, k1, k2⟩ := C2.now.sl i sl q
          cases k2 with
          | un => exact go2.elim
          | v z => exact go2.elim
          | @ow a b o u z1 z2 z3 =>
            cases z3 with
            | lst z => exact go2.elim
            | dct z => exact ⟨a, k1, go2⟩
            | dic _ _ _ z => exact ⟨a, k1, go2⟩
      obtain ⟨a, k1, go3⟩ := hown
      rw [runM_bnd] at go3
      refine ⟨.ref a, k1, ?_⟩
      refine tM_mono (stepE C2 go3) fun y H3 ⟨F3, env3, ry, C3, s3, hy, go4⟩ => ?_
      have hd3 := hd.mono s3
      unfold runM setDc at go4
      cases q2 : cont env3 ry with
      | none => rw [q2] at go4; exact go4.elim
      | some c =>
        rw [q2] at go4
        simp only at go4
        have hyc := hy.cont C3.now q2
        cases q3 : env3[i]? with
        | none => rw [q3] at go4; exact go4.elim
        | some sl3 =>
          rw [q3] at go4
          obtain ⟨y3, w1, w2⟩ := C3.now.sl i sl3 q3
          rw [k1] at w1
          cases w1
          cases w2 with
          | un => first | (cases go4; done) | exact go4.elim
          | v z => exact go4.elim
          | @ow a' b' o' u' v1 v2 v3 =>
            cases v3 with
            | lst z => exact go4.elim
            | @dct xs l rk =>
              simp only at go4
              cases q4 : keyD c with
              | none => rw [q4] at go4; exact go4.elim
              | some kk =>
                rw [q4] at go4
                simp only at go4
                by_cases hl : l.length < sizeLine
                · rw [if_pos hl] at go4
                  exact ⟨F3, d, C3.now.same, hd3, .inr ⟨a, xs, kk, rfl, v2, by rw [rk.length]; exact hl, keyD_ok hyc q4, go4 F3 σ _ (C3.write q3 k1 v1 (.dct (rk.put hd3)))⟩⟩
                · rw [if_neg hl] at go4
                  exact go4.elim
            | @dic xs l a1 a2 a3 rn =>
              simp only at go4
              cases q4 : keyN c with
              | none => rw [q4] at go4; exact go4.elim
              | some kk =>
                rw [q4] at go4
                simp only at go4
                by_cases hl : l.length < sizeLine
                · rw [if_pos hl] at go4
                  exact ⟨F3, d, C3.now.same, hd3, .inl ⟨a, xs, l, c, kk, rfl, v2, a1, hl, a3, rn, keyN_rep hyc q4, q4, fun xs' rn' => go4 F3 σ _ (C3.write q3 k1 v1 (.dic a1 (Nat.le_trans (putN_len _ _ _) hl) (putN_nodup a3) rn'))⟩⟩
                · rw [if_neg hl] at go4
                  exact go4.elim
theorem aug_ok (hK : X.K = G.K) (op : Operator) : PIp X op (P2 G (augD op)) := by
  intro pins s σ H x y v u Q I rx ry ⟨F, c, d, pr, sm, hx, hy, e, fin⟩
  unfold augD at e
  split at e
  · cases e; exact iop_add pins s σ H x y v u Q I rx ry ⟨_, _, hx.int, hy.int, fin _ F H (.int sm)⟩
  · cases e; exact iop_sub pins s σ H x y v u Q I rx ry ⟨_, _, hx.int, hy.int, fin _ F H (.int sm)⟩
  · split at e
    · rename_i hs
      cases e
      refine iop_mul pins s σ H x y v u Q I rx ry ⟨_, _, hx.int, hy.int, ?_, fin _ F H (.int sm)⟩
      simp only [Bool.or_eq_true, smallI_iff] at hs
      exact hs
    · cases e
  · split at e
    · rename_i hs
      cases e
      exact iop_fdiv pins s σ H x y v u Q I rx ry ⟨_, _, hx.int, hy.int, divI_iff.mp hs, fin _ F H (.int sm)⟩
    · cases e
  · split at e
    · rename_i hs
      cases e
      exact iop_mod pins s σ H x y v u Q I rx ry ⟨_, _, hx.int, hy.int, hs, fin _ F H (.int sm)⟩
    · cases e
  · split at e
    · rename_i hs
      cases e
      exact iop_add_str pins s σ H x y v u Q I rx ry ⟨_, _, hx.str, hy.str, hs, fin _ F H (.str sm)⟩
    · cases e
  · cases e
theorem twoP_noex {f : D → D → Option PR} {r r' : R} : ∀ x e, twoP f r r' env ≠ some (.ex x e) := by
  intro x e h
  unfold twoP at h
  split at h
  · split at h <;> cases h
  · cases h
theorem aug_red {i : Nat} {op : Operator} {m : M R} {D : Ends} (h : tS G T W (fun env => runM (bnd (ev tb cf (.var i)).1 fun x => bnd m fun y => bnd (twoP (augD op) x y) (putR i)) env fun _ e => some (.nx e)) D σ H) : tAug i (tR G T W m) (P2 G (augD op)) D σ H := by
  obtain ⟨F0, H0, B, F, env, C, go⟩ := h
  have go : GoS G T W F0 H0 B (runM (bnd (ev tb cf (.var i)).1 fun x => bnd m fun y => bnd (twoP (augD op) x y) (putR i)) env fun _ e => some (.nx e)) D := go
  rw [runM_bnd] at go
  have hv : ∃ x r, σ[i]? = some (some x) ∧ HR G (Fz H0 B) F σ H env r x ∧ GoS G T W F0 H0 B (runM (bnd m fun y => bnd (twoP (augD op) r y) (putR i)) env fun _ e => some (.nx e)) D := by
    have e0 : (ev tb cf (.var i)).1 env = match env[i]? with
      | some (.v d) => some (O.ok (R.v d) env)
      | some (.ow _ _) => some (O.ok (R.ow i) env)
      | _ => none := rfl
    unfold runM at go
    cases q : env[i]? with
    | none => rw [e0, q] at go; exact go.elim
    | some s =>
      rw [e0, q] at go
      obtain ⟨y, h1, h2⟩ := C.now.sl i s q
      cases h2 with
      | un => exact go.elim
      | v r => exact ⟨_, _, h1, .v r, go⟩
      | ow k1 k2 k3 => exact ⟨_, _, h1, .ow h1, go⟩
  obtain ⟨x, r, h1, hr, go1⟩ := hv
  rw [runM_bnd] at go1
  refine ⟨x, h1, ?_⟩
  refine tM_mono (stepP (HR.stable _ _ _) C hr go1) fun y H1 ⟨F1, env1, ry, C1, hr1, hy, go2⟩ => ?_
  rw [runM_bnd] at go2
  unfold runM twoP at go2
  cases q1 : cont env1 r with
  | none => rw [q1] at go2; exact go2.elim
  | some c =>
    cases q2 : cont env1 ry with
    | none => rw [q1, q2] at go2; exact go2.elim
    | some d =>
      rw [q1, q2] at go2
      simp only at go2
      cases q3 : augD op c d with
      | none => rw [q3] at go2; exact go2.elim
      | some pr =>
        rw [q3] at go2
        simp only at go2
        refine ⟨F1, c, d, pr, C1.now.same, hr1.cont C1.now q1, hy.cont C1.now q2, q3, fun v F' H' p => ?_⟩
        obtain ⟨c1, c2⟩ := p.cond C1
        cases q4 : putR i pr.r env1 with
        | none => rw [q4] at go2; exact go2.elim
        | some o =>
          rw [q4] at go2
          cases o with
          | ex x e => exact absurd q4 (putR_noex _ _)
          | ok u e =>
            obtain ⟨F2, C2, _⟩ := putR_ok c1 c2 q4
            exact go2 F2 _ H' C2
/-! ### l[k] op= e -/
theorem getP (hK : X.K = G.K) : PGet X (fun o i H Q => ∃ p xs k v, o = .ref p ∧ i = .int k ∧ H p = some (.lst xs) ∧ atI xs k = some v ∧ Q v H) := by
  intro pins s σ H x y v u Q I rx ry h
  obtain ⟨p, xs, i, z, rfl, rfl, hq, he, q⟩ := h
  cases rx
  obtain ⟨t, rfl⟩ := ry
  obtain ⟨its, r, pl, hz⟩ := I.list (.inl (.inl hq))
  obtain ⟨j, h1, h2, h3, h4, h5⟩ := atI_get he
  obtain ⟨w, ew, rw'⟩ := r.get h2
  have hl := r.length
  have hn := line63
  have fin : EP X pins σ Q w s := ⟨z, H, I, rw', q⟩
  by_cases h0 : 0 ≤ i
  · have hj : i.toNat = j := by
      rw [seqIndex_of h0 h5] at h1
      exact Option.some.inj h1
    exact wpAny_getItem_list pl.isList h0 (by omega) (by rw [hj]; simpa using ew) fin
  · have hj : (i + (its.toArray.size : Int)).toNat = j := by
      rw [seqIndex_neg (by omega) h4] at h1
      rw [List.size_toArray, ← hl]
      exact Option.some.inj h1
    exact wpAny_getItem_list_neg pl.isList (by omega) (by rw [List.size_toArray] <;> omega) (by omega) (by rw [hj]; simpa using ew) fin
theorem go_ownLS {i : Nat} {α : Type} {f : Unit → M α} {kk : α → Env → Option SO} {D : Ends} (C : Cond G T F0 H0 B F σ H env) (go : GoS G T W F0 H0 B (runM (bnd (ownL i) f) env kk) D) : ∃ a, σ[i]? = some (some (V.ref a)) ∧ GoS G T W F0 H0 B (runM (f ()) env kk) D := by
  rw [runM_bnd] at go
  unfold runM ownL at go
  cases q : env[i]? with
  | none => rw [q] at go; exact go.elim
  | some sl =>
    rw [q] at go
    obtain ⟨y, k1, k2⟩ := C.now.sl i sl q
    cases k2 with
    | un => exact go.elim
    | v z => exact go.elim
    | @ow a b o u z1 z2 z3 =>
      cases z3 with
      | dct z => exact go.elim
      | dic _ _ _ z => exact go.elim
      | lst rl => exact ⟨a, k1, go⟩
theorem augix_red {i : Nat} {op : Operator} {mk me : M R} {D : Ends} (h : tS G T W (fun env => runM (bnd (ownL i) fun _ => bnd mk fun y => bnd (getIx i y) fun x => bnd me fun z => augIx i op y x z) env fun _ e => some (.nx e)) D σ H) :
    tAugS (tVar i) (tR G T W mk) (tR G T W me) (fun o i H Q => ∃ p xs k v, o = .ref p ∧ i = .int k ∧ H p = some (.lst xs) ∧ atI xs k = some v ∧ Q v H) (P2 G (augD op)) rSetL D σ H := by
  obtain ⟨F0, H0, B, F, env, C, go⟩ := h
  have go : GoS G T W F0 H0 B (runM (bnd (ownL i) fun _ => bnd mk fun y => bnd (getIx i y) fun x => bnd me fun z => augIx i op y x z) env fun _ e => some (.nx e)) D := go
  obtain ⟨a, k1, go⟩ := go_ownLS C go
  refine ⟨.ref a, k1, ?_⟩
  rw [runM_bnd] at go
  refine tM_mono (stepE C go) fun y H1 ⟨F1, env1, ry, C1, s1, hy, go1⟩ => ?_
  rw [runM_bnd] at go1
  unfold runM getIx at go1
  cases q : env1[i]? with
  | none => rw [q] at go1; exact go1.elim
  | some sl =>
    rw [q] at go1
    obtain ⟨y1, w1, w2⟩ := C1.now.sl i sl q
    rw [k1] at w1
    cases w1
    cases w2 with
    | un => first | (cases q; done) | contradiction
    | v z => exact go1.elim
    | @ow a' b o u z1 z2 z3 =>
      cases z3 with
      | dct z => exact go1.elim
      | dic _ _ _ z => exact go1.elim
      | @lst xs l rl =>
        simp only at go1
        cases q2 : cont env1 ry with
        | none => rw [q2] at go1; exact go1.elim
        | some dy =>
          rw [q2] at go1
          cases dy <;> first
            | exact go1.elim
            | skip
          rename_i n
          have ey := (hy.cont C1.now q2).int
          subst ey
          simp only [Option.bind_some, intD] at go1
          cases q3 : atI l n with
          | none => rw [q3] at go1; exact go1.elim
          | some d =>
            rw [q3] at go1
            obtain ⟨v, hv, rv⟩ := atI_rep rl q3
            refine ⟨a, xs, n, v, rfl, rfl, z2, hv, ?_⟩
            have go2 : GoS G T W F0 H0 B (runM (bnd me fun z => augIx i op ry d z) env1 fun _ e => some (.nx e)) D := go1
            rw [runM_bnd] at go2
            refine tM_mono (stepP (Stable.and Stable.rep (HR.stable _ _ _)) C1 ⟨rv, hy⟩ go2) fun z H2 ⟨F2, env2, rz, C2, ⟨rv2, hy2⟩, hz, go3⟩ => ?_
            unfold runM augIx at go3
            cases q4 : cont env2 rz with
            | none => rw [q4] at go3; exact go3.elim
            | some c =>
              rw [q4] at go3
              simp only at go3
              cases q5 : augD op d c with
              | none => rw [q5] at go3; exact go3.elim
              | some pr =>
                rw [q5] at go3
                cases pr with
                | fr o => exact go3.elim
                | v d2 =>
                  simp only at go3
                  cases q6 : cont env2 ry with
                  | none => rw [q6] at go3; exact go3.elim
                  | some dy =>
                    rw [q6] at go3
                    cases dy <;> first
                      | exact go3.elim
                      | skip
                    rename_i n2
                    have en := (hy2.cont C2.now q6).int
                    injection en with en
                    subst en
                    simp only [Option.bind_some, intD] at go3
                    refine ⟨F2, d, c, .v d2, C2.now.same, .inl rv2, hz.cont C2.now q4, q5, fun w F' H' p => ?_⟩
                    obtain ⟨c1, c2⟩ := p.cond C2
                    unfold setIx at go3
                    cases q7 : env2[i]? with
                    | none => rw [q7] at go3; exact go3.elim
                    | some sl3 =>
                      rw [q7] at go3
                      obtain ⟨y3, v1, v2⟩ := c1.now.sl i sl3 q7
                      rw [k1] at v1
                      cases v1
                      cases v2 with
                      | un => first | (cases q7; done) | contradiction
                      | v z => exact go3.elim
                      | @ow a3 b3 o3 u3 t1 t2 t3 =>
                        cases t3 with
                        | dct z => exact go3.elim
                        | dic _ _ _ z => exact go3.elim
                        | @lst xs3 l3 rl3 =>
                          simp only at go3
                          cases q8 : ixN l3.length n with
                          | none => rw [q8] at go3; exact go3.elim
                          | some j =>
                            rw [q8] at go3
                            refine ⟨a, xs3, n, j, rfl, rfl, t2, by rw [rl3.length]; exact q8, ?_⟩
                            have hd : Rep G F' w d2 := by
                              cases c2 with
                              | v h => exact h
                            exact go3 F' σ _ (c1.write q7 k1 t1 (.lst (rl3.set j hd)))
end
end Ev

set_option Elab.async false
set_option linter.all false
set_option maxRecDepth 100000
set_option maxHeartbeats 2000000
/-! The statements: all of them. -/
namespace Ev
open PySem PySem.Spec L2
open PyProof.Rows hiding St
section
variable {G : Adr} {nm : Nm} {tb : Tab} {cf : CF} {k : Nat} {C : SC} {X : Cx} {T : Nat → Addr → Prop} {W : WX} {F0 H0 F H : Hp} {B : Addr → Prop} {σ : St} {env : Env}
/-! ### loops -/
theorem while_red {t : M Bool} {body : Env → Option SO} {D : Ends} (h : tS G T W (whileN t body whileMost) D σ H) : tWhile (tT G T W t) (tS G T W body) D σ H := by
  refine ⟨fun m σ H => tS G T W (whileN t body m) D σ H, ⟨whileMost, h⟩, ?_⟩
  rintro m σ H ⟨F0, H0, B, F, env, C, go⟩
  cases m with
  | zero => exact go.elim
  | succ m =>
    have go : GoS G T W F0 H0 B (runM t env fun b e => if b then (match body e with
      | some (.nx e) => whileN t body m e
      | some (.ct e) => whileN t body m e
      | some (.bk e) => some (.nx e)
      | r => r) else some (.nx e)) D := go
    refine tM_mono (stepE (R' := rB) C go) fun b H1 ⟨F1, env1, a, C1, s1, h1, go1⟩ => ?_
    have h1 : a = b := h1
    subst h1
    cases a with
    | false => exact go1 F1 σ H1 C1
    | true =>
      have go1 : GoS G T W F0 H0 B (match body env1 with
        | some (.nx e) => whileN t body m e
        | some (.ct e) => whileN t body m e
        | some (.bk e) => some (.nx e)
        | r => r) D := go1
      refine ⟨fun σ' H' => tS G T W (whileN t body m) D σ' H', fun σ' H' hn => ⟨m, Nat.lt_succ_self m, hn⟩, ?_⟩
      refine ⟨F0, H0, B, F1, env1, C1, ?_⟩
      cases e : body env1 with
      | none => rw [e] at go1; exact go1
      | some o =>
        rw [e] at go1
        cases o with
        | nx e' => exact fun F' σ' H' c => ⟨F0, H0, B, F', e', c, go1⟩
        | ct e' => exact fun F' σ' H' c => ⟨F0, H0, B, F', e', c, go1⟩
        | bk e' => exact go1
        | rt r e' => exact go1
        | ex x e' => exact go1
theorem for_red {t : Ev.T} {it : M (List D)} {body : Env → Option SO} {D : Ends} (h : tS G T W (fun env => runM it env fun ds e => forL (fun d => asgT t (.v d)) body ds e) D σ H) : tFor (tI G T W it) (tG G T t) (tS G T W body) D σ H := by
  obtain ⟨F0, H0, B, F, env, C, go⟩ := h
  refine tM_mono (stepE C go) fun J H1 ⟨F1, env1, ds, C1, s1, hJ, go1⟩ => ?_
  refine ⟨fun i m σ H => m = ds.length - i ∧ i ≤ ds.length ∧ ∃ F' e, Cond G T F0 H0 B F' σ H e ∧ Same F1 F' ∧ GoS G T W F0 H0 B (forL (fun d => asgT t (.v d)) body (ds.drop i) e) D, ⟨ds.length, by simp, Nat.zero_le _, F1, env1, C1, Same.refl _, by rw [List.drop_zero]; exact go1⟩, ?_⟩
  rintro i m σ H ⟨rfl, hi, F', e, C', sF, go2⟩
  obtain ⟨j1, j2⟩ := hJ F' H sF C'.now.same i
  by_cases hlt : i < ds.length
  · have hd : ds.drop i = ds[i] :: ds.drop (i + 1) := List.drop_eq_getElem_cons hlt
    rw [hd] at go2
    obtain ⟨jg, jy⟩ := j1 hlt
    refine .inr ⟨jg, fun σ' H' => ∃ F2 e2, Cond G T F0 H0 B F2 σ' H' e2 ∧ Same F1 F2 ∧ GoS G T W F0 H0 B (forL (fun d => asgT t (.v d)) body (ds.drop (i + 1)) e2) D, fun σ' H' ⟨F2, e2, c, s, q⟩ => ⟨ds.length - (i + 1), by omega, rfl, hlt, F2, e2, c, s, q⟩, fun x H' y => ?_⟩
    obtain ⟨d, F2, hd', p⟩ := jy x H' y
    rw [List.getElem?_eq_getElem hlt] at hd'
    cases hd'
    obtain ⟨c1, c2⟩ := p.cond C'
    refine go_asg (D := D) c1 c2 ?_
    have go3 : GoS G T W F0 H0 B (runM (asgT t (.v ds[i])) e fun _ e => (match body e with
      | some (.nx e) => forL (fun d => asgT t (.v d)) body (ds.drop (i + 1)) e
      | some (.ct e) => forL (fun d => asgT t (.v d)) body (ds.drop (i + 1)) e
      | some (.bk e) => some (.nx e)
      | r => r)) D := go2
    unfold runM at go3
    show (match asgT t (.v ds[i]) e with
      | some (.ok _ e) => _
      | _ => False)
    cases q : asgT t (.v ds[i]) e with
    | none => rw [q] at go3; exact go3.elim
    | some o =>
      rw [q] at go3
      cases o with
      | ex x e' => exact absurd q (asgT_noex t _ _)
      | ok u e3 =>
        intro F3 σ3 C3 s3
        have go4 : GoS G T W F0 H0 B (match body e3 with
          | some (.nx e) => forL (fun d => asgT t (.v d)) body (ds.drop (i + 1)) e
          | some (.ct e) => forL (fun d => asgT t (.v d)) body (ds.drop (i + 1)) e
          | some (.bk e) => some (.nx e)
          | r => r) D := go3
        have sF3 : Same F1 F3 := (sF.trans p.ff).trans s3
        refine ⟨F3, H', Own σ3 e3, F3, e3, C3.now.self, ?_⟩
        cases q2 : body e3 with
        | none => rw [q2] at go4; exact go4
        | some o =>
          rw [q2] at go4
          cases o with
          | nx e' => exact fun F' σ' H' c => ⟨F', e', C3.trans c, sF3.trans c.ext.s0, go4⟩
          | ct e' => exact fun F' σ' H' c => ⟨F', e', C3.trans c, sF3.trans c.ext.s0, go4⟩
          | bk e' => exact fun F' σ' H' c => go4 F' σ' H' (C3.trans c)
          | rt r e' => exact fun F' σ' H' v c p => go4 F' σ' H' v (C3.trans c) (p.mono fun a => C3.fz)
          | ex x e' => exact fun F' σ' H' cls d c xr => go4 F' σ' H' cls d (C3.trans c) xr
  · have he : i = ds.length := by omega
    refine .inl ⟨j2 (by omega), ?_⟩
    rw [he, List.drop_length] at go2
    exact go2 F' σ H C'
/-! ### an except suite -/
def hdT : Ss → Addr → Value → Option Addr → TS
  | .cons (.ret (.str a)) .nil, _, _, _ => fun D _ H => D.rt (.str a) H
  | .cons (.ret (.bl a)) .nil, _, _, _ => fun D _ H => D.rt (.bl a) H
  | .cons (.ret (.int a)) .nil, _, _, _ => fun D _ H => D.rt (.int a) H
  | .cons .pass .nil, _, _, _ => fun D σ H => D.nx σ H
  | _, _, _, _ => fun _ _ _ => False
theorem hd_pss {h : Ss} {ys : List Stmt} (q : chkH h ys = true) (a : Addr) (cls : Value) (d : Option Addr) : ys ≠ [] ∧ PSs X ys (hdT h a cls d) := by
  unfold chkH at q
  split at q
  · have e := of_decide_eq_true q
    subst e
    exact ⟨by simp, pss_one (ps_ret pe_str)⟩
  · have e := eq_of_beq q
    subst e
    exact ⟨by simp, pss_one (ps_ret pe_bl)⟩
  · have e := of_decide_eq_true q
    subst e
    exact ⟨by simp, pss_one (ps_ret pe_int)⟩
  · exact ⟨by simp, pss_one ps_pass⟩
  · cases q
theorem hd_go {h : Ss} {ys : List Stmt} (q : chkH h ys = true) {a : Addr} {cls : Value} {d : Option Addr} {D : Ends} (C : Cond G T F0 H0 B F σ H env) (go : GoS G T W F0 H0 B (evB tb cf h env) D) : hdT h a cls d D σ H := by
  unfold chkH at q
  split at q
  · exact go F σ H _ C (.str _)
  · exact go F σ H _ C (.bl _)
  · exact go F σ H _ C (.int _)
  · exact go F σ H C
  · cases q
/-! ### slots are cleared -/
theorem clr1 {v : Nat} {s : Sl} (C : Cond G T F0 H0 B F σ H env) (h : env[v]? = some s) : Cond G T F0 H0 B F σ H (env.set v .un) := by
  have so : ∀ a, Own σ (env.set v .un) a → Own σ env a := fun a ⟨i, b, o, q1, q2⟩ => by
    rcases set_at q2 with ⟨_, z⟩ | ⟨_, q2⟩
    · cases z
    · exact ⟨i, b, o, q1, q2⟩
  refine ⟨⟨C.now.same, by rw [List.length_set]; exact C.now.len, fun i s' hs => ?_, fun i j a b c o p h1 h2 h3 h4 => ?_, fun i o hi => ?_⟩, C.ext.s0, C.ext.fresh, C.ext.pres, fun a q => C.ext.own a (so a q)⟩
  · rcases set_at hs with ⟨rfl, rfl⟩ | ⟨_, hs⟩
    · obtain ⟨x, q, _⟩ := C.now.sl _ s h
      exact ⟨x, q, .un⟩
    · exact C.now.sl i s' hs
  · rcases set_at h3 with ⟨_, z⟩ | ⟨_, h3⟩
    · cases z
    · rcases set_at h4 with ⟨_, z⟩ | ⟨_, h4⟩
      · cases z
      · exact C.now.inj i j a b c o p h1 h2 h3 h4
  · rcases set_at hi with ⟨_, z⟩ | ⟨_, hi⟩
    · cases z
    · exact C.now.tr i o hi
theorem clr_all : ∀ {own : List Nat} {env e : Env}, clrE env own = some e → Cond G T F0 H0 B F σ H env → Cond G T F0 H0 B F σ H e
  | [], env, e, h, C => by cases h; exact C
  | v :: vs, env, e, h, C => by
    have h : (match env[v]? with
      | some (.ow true _) => none
      | some _ => clrE (env.set v .un) vs
      | none => none) = some e := h
    cases q : env[v]? with
    | none => rw [q] at h; cases h
    | some s =>
      rw [q] at h
      cases s with
      | un => exact clr_all h (clr1 C q)
      | v d => exact clr_all h (clr1 C q)
      | ow b o =>
        cases b with
        | true => cases h
        | false => exact clr_all h (clr1 C q)
theorem frz_all : ∀ {own : List Nat} {F : Hp} {env : Env}, Cond G T F0 H0 B F σ H env → ∃ F', Cond G T F0 H0 B F' σ H (frzE env own)
  | [], F, env, C => ⟨F, C⟩
  | v :: vs, F, env, C => by
    have e : frzE env (v :: vs) = (match env[v]? with
      | some (.ow false o) => frzE (env.set v (.v o.toD)) vs
      | _ => frzE env vs) := rfl
    rw [e]
    cases q : env[v]? with
    | none => exact frz_all C
    | some s =>
      cases s with
      | un => exact frz_all C
      | v d => exact frz_all C
      | ow b o =>
        cases b with
        | true => exact frz_all C
        | false =>
          obtain ⟨x, h1, h2⟩ := C.now.sl v _ q
          cases h2 with
          | ow k1 k2 k3 =>
            have e2 : frz (.ow v) env = some (.ok o.toD (env.set v (.v o.toD))) := by
              show (match env[v]? with
                | some (Sl.v d) => some (O.ok d env)
                | some (Sl.ow false o) => some (O.ok o.toD (env.set v (.v o.toD)))
                | _ => none) = _
              rw [q]
            obtain ⟨F1, C1, _⟩ := frz_ok C (HR.ow h1) e2
            exact frz_all C1
/-! ### all statements -/
mutual
theorem sS : ∀ (s : S) {C : SC} {X : Cx} {W : WX} {st : Stmt}, Good G nm tb cf k C X → Bod X W → chkS nm s C st = true → PS X st (tS G T W (evS tb cf s))
  | .expr e, C, X, W, st, g, b, h => by
    cases st with
    | Expr x p =>
      obtain ⟨h1, h2⟩ := and1 (show (chkE nm e C x && !isComp x) = true from h)
      refine ps_mono (ps_expr (sE (T := T) e g b.tk h1).1 (sw_no (by simpa using h2))) fun D σ H ⟨F0, H0, B, F, env, c, go⟩ => ?_
      exact tM_mono (stepE c go) fun x H1 ⟨F1, env1, a, C1, s1, h1, go1⟩ => go1 F1 σ H1 C1
    | _ => cases h
  | .asg t e, C, X, W, st, g, b, h => by
    cases st with
    | Assign tgs x p =>
      cases tgs with
      | nil => cases h
      | cons tg tgs =>
        cases tgs with
        | cons _ _ => cases h
        | nil =>
          obtain ⟨h1, h⟩ := and1 (show (chkT t C tg && (chkE nm e C x && (!(isTupX tg && isTupX x) || parTg C tg))) = true from h)
          obtain ⟨h2, h3⟩ := and1 h
          have he := (sE (G := G) (tb := tb) (cf := cf) (T := T) e g b.tk h2).1
          have ht := sT (T := T) g t h1
          cases tg with
          | Name y py =>
            clear h3
            cases t with
            | tp ts => cases h1
            | nm i =>
              obtain ⟨k1, k2⟩ := and1 (show (decide (C.N[i]? = some y) && locB C y) = true from h1)
              obtain ⟨l1, l2⟩ := g.loc k2
              have hN : X.N[i]? = some y := by rw [g.hN]; exact of_decide_eq_true k1
              have nd : X.N.Nodup := by rw [g.hN]; exact g.nd
              have plain : swapsWith x (some (.Name y py)) p.line X.env = pure false → PS X (.Assign [.Name y py] x p) (tS G T W (evS tb cf (.asg (.nm i) e))) := fun hs =>
                ps_mono (ps_set nd hN l1 he hs l2) fun D σ H hq => tM_mono (asg_red hq) fun v H1 q => tG_nm q
              cases hc : isComp x with
              | false => exact plain (sw_no hc)
              | true =>
                cases x with
                | ListComp elt gs scope pos =>
                  refine ⟨fun pins s σ H D I hw => ?_⟩
                  have hsw := sw_comp (C := C) (elt := elt) (gs := gs) (scope := scope) (pos := pos) (py := py) (y := y) (l := p.line) I.ok.kind g.hs
                  cases hb : swB C y py (.ListComp elt gs scope pos) with
                  | false =>
                    rw [hb] at hsw
                    exact (plain hsw).run pins s σ H D I hw
                  | true =>
                    rw [hb] at hsw
                    obtain ⟨hb1, _⟩ := and1 hb
                    have hyl : X.env.scope.names.lookup y = some .local := by rw [g.hs]; exact eq_of_beq hb1
                    cases e with
                    | lc elt' t' it c own =>
                      cases gs with
                      | nil => cases h2
                      | cons gg gs =>
                        cases gs with
                        | cons _ _ => cases h2
                        | nil =>
                          obtain ⟨tg, iter, ifs, asy⟩ := gg
                          obtain ⟨h1, h⟩ := and1 h2
                          obtain ⟨h2', h⟩ := and1 h
                          obtain ⟨h3, h⟩ := and1 h
                          obtain ⟨h4, h⟩ := and1 h
                          obtain ⟨h5, h⟩ := and1 h
                          obtain ⟨h6, h7⟩ := and1 h
                          have e0 : asy = 0 := of_decide_eq_true h1
                          subst e0
                          have ok := blkOk_by h2'
                          rw [← g.hN, ← g.hs] at ok
                          have hts : ∀ (s : Shared) (H : Hp) (C1 : Addr) (cl : List (Str × Addr)) (fp : List Addr), PTs (X.blk s H scope (compEnvC scope cl C1 X.env) fp) ifs (tT G T W0 (ev tb cf c).2) := fun s H C1 cl fp => by
                            cases ifs with
                            | nil => exact pts_mono pts_nil fun σ H Q hq => yes_red (isTr_ev h6) hq
                            | cons y ys =>
                              cases ys with
                              | nil => exact pts_one (sE (T := T) c (g.blk s H scope C1 cl fp) takes0 h6).2
                              | cons _ _ => cases h6
                          refine (ps_mono (ps_setLc (wi := tI G T W (evI tb cf it)) (g := tG G T t') (tt := tT G T W0 (ev tb cf c).2) (te := tR G T W0 (ev tb cf elt').1) g.calm nd hN hyl hsw (sI (T := T) it g b.tk h5) ok (fun s H C1 cl fp => sT (g.blk s H scope C1 cl fp) t' h4) hts
                            (fun s H C1 cl fp => (sE (T := T) elt' (g.blk s H scope C1 cl fp) takes0 h7).1) (fold_of h5 X.env)) fun D σ H hq => ?_).run pins s σ H D I hw
                          rw [own_snd]
                          exact lc_red (sub_of h3) (tM_mono (asg_red hq) fun v H1 q => tG_nm q)
                    | lc2 elt' t' it c t1 it1 c1 own own1 =>
                      cases gs with
                      | nil => cases h2
                      | cons gg gs =>
                        cases gs with
                        | nil => cases h2
                        | cons gg1 gs =>
                        cases gs with
                        | cons _ _ => cases h2
                        | nil =>
                          obtain ⟨tg, iter, ifs, asy⟩ := gg
                          obtain ⟨tg1, iter1, ifs1, asy1⟩ := gg1
                          obtain ⟨h1, h⟩ := and1 h2
                          obtain ⟨h1', h⟩ := and1 h
                          obtain ⟨h2', h⟩ := and1 h
                          obtain ⟨h3, h⟩ := and1 h
                          obtain ⟨h3', h⟩ := and1 h
                          obtain ⟨h3i, h⟩ := and1 h
                          obtain ⟨h4, h⟩ := and1 h
                          obtain ⟨h4', h⟩ := and1 h
                          obtain ⟨h5, h⟩ := and1 h
                          obtain ⟨h5', h⟩ := and1 h
                          obtain ⟨h6, h⟩ := and1 h
                          obtain ⟨h6', h7⟩ := and1 h
                          have e0 : asy = 0 := of_decide_eq_true h1
                          subst e0
                          have e0 : asy1 = 0 := of_decide_eq_true h1'
                          subst e0
                          have ok := blkOk_by h2'
                          rw [← g.hN, ← g.hs] at ok
                          have hts : ∀ (s : Shared) (H : Hp) (C1 : Addr) (cl : List (Str × Addr)) (fp : List Addr), PTs (X.blk s H scope (compEnvC scope cl C1 X.env) fp) ifs (tT G T W0 (ev tb cf c).2) := fun s H C1 cl fp => by
                            cases ifs with
                            | nil => exact pts_mono pts_nil fun σ H Q hq => yes_red (isTr_ev h6) hq
                            | cons y ys =>
                              cases ys with
                              | nil => exact pts_one (sE (T := T) c (g.blk s H scope C1 cl fp) takes0 h6).2
                              | cons _ _ => cases h6
                          have hts1 : ∀ (s : Shared) (H : Hp) (C2 : Addr) (cl : List (Str × Addr)) (fp : List Addr), PTs (X.blk s H scope (compEnvC scope cl C2 X.env) fp) ifs1 (tT G T W0 (ev tb cf c1).2) := fun s H C2 cl fp => by
                            cases ifs1 with
                            | nil => exact pts_mono pts_nil fun σ H Q hq => yes_red (isTr_ev h6') hq
                            | cons y ys =>
                              cases ys with
                              | nil => exact pts_one (sE (T := T) c1 (g.blk s H scope C2 cl fp) takes0 h6').2
                              | cons _ _ => cases h6'
                          refine (ps_mono (ps_setLc2 (vs1 := own1) (wi := tI G T W (evI tb cf it)) (g := tG G T t') (tt := tT G T W0 (ev tb cf c).2) (te := tR G T W0 (ev tb cf elt').1) (wi1 := tI G T W0 (evI tb cf it1)) (g1 := tG G T t1) (tt1 := tT G T W0 (ev tb cf c1).2) g.calm nd hN hyl hsw (sI (T := T) it g b.tk h5) ok
                            (by rw [own_snd]; exact sub_of h3i) (fun s H C1 cl fp => sT (g.blk s H scope C1 cl fp) t' h4) hts (fun s H C1 cl fp => sI (T := T) it1 (g.blk s H scope C1 cl fp) takes0 h5') (fun s H C1 cl fp => sT (g.blk s H scope C1 cl fp) t1 h4') hts1
                            (fun s H C1 cl fp => (sE (T := T) elt' (g.blk s H scope C1 cl fp) takes0 h7).1) (fold_of h5 X.env) (fold_of h5')) fun D σ H hq => ?_).run pins s σ H D I hw
                          rw [own_snd]
                          exact lc2_red (sub_of h3) (sub_of h3') (sub_of h3i) (tM_mono (asg_red hq) fun v H1 q => tG_nm q)
                    | _ => cases h2
                | SetComp _ _ _ _ => cases e <;> cases h2
                | DictComp _ _ _ _ _ => cases e <;> cases h2
                | _ => cases hc
          | Tuple ts kk pt =>
            have hsn : swappedStores [.Tuple ts kk pt] x X.env = pure none := by
              cases hx : isTupX x with
              | false => exact st_none hx
              | true =>
                cases x with
                | Tuple es k2 pt2 => exact swN g.hs (show parB C ts = true from h3)
                | _ => cases hx
            exact ps_mono (ps_asg he ht sw_tup hsn rfl) fun D σ H hq => asg_red hq
          | _ => cases t <;> cases h1
    | _ => cases h
  | .par ts es, C, X, W, st, g, b, h => by
    cases st with
    | Assign tgs x p =>
      cases tgs with
      | nil => cases h
      | cons tg tgs =>
        cases tg with
        | Tuple tns kk pt =>
          cases tgs with
          | cons _ _ => cases x <;> cases h
          | nil =>
            cases x with
            | Tuple xs k2 pt2 =>
              cases hn : tsNm ts with
              | none =>
                have h : (match tsNm ts with
                  | some is => nmsB C is tns && (chkL nm es C xs && (decide (is.length ≤ 1000) && (parA C is tns xs || (decide (tns.length = xs.length) && parB C tns))))
                  | none => false) = true := h
                rw [hn] at h; cases h
              | some is =>
                have h : (match tsNm ts with
                  | some is => nmsB C is tns && (chkL nm es C xs && (decide (is.length ≤ 1000) && (parA C is tns xs || (decide (tns.length = xs.length) && parB C tns))))
                  | none => false) = true := h
                rw [hn] at h
                obtain ⟨h1, h⟩ := and1 h
                obtain ⟨h2, h⟩ := and1 h
                obtain ⟨h3, h4⟩ := and1 h
                have ha := sL (G := G) (tb := tb) (cf := cf) (T := T) es g b.tk h2
                have nok := nms_ok g h1
                have nd : X.N.Nodup := by rw [g.hN]; exact g.nd
                rcases Bool.or_eq_true_iff.mp h4 with hA | hB
                · obtain ⟨a1, hA⟩ := and1 hA
                  obtain ⟨a2, hA⟩ := and1 hA
                  obtain ⟨a3, hA⟩ := and1 hA
                  obtain ⟨a4, hA⟩ := and1 hA
                  obtain ⟨a5, a6⟩ := and1 hA
                  have a3 := of_decide_eq_true a3
                  have a5 : xs.all (foldedForSure 8) = false := by simpa using a5
                  have a6 : xs.all (constantsAlone 8) = false := by simpa using a6
                  have hst := chkL_star h2
                  refine ⟨fun pins s σ H D I hw => ?_⟩
                  have hk := I.ok.kind
                  cases nok with
                  | nil => cases a1
                  | @cons i x px is1 tns hi1 hl1 hf1 r1 =>
                    cases r1 with
                    | nil => cases a1
                    | @cons j y py is2 tns hi2 hl2 hf2 r2 =>
                      have b1 := List.all_eq_true.mp a4 (.Name x px) List.mem_cons_self
                      have b2 := List.all_eq_true.mp a4 (.Name y py) (List.mem_cons_of_mem _ List.mem_cons_self)
                      obtain ⟨b11, _⟩ := and1 b1
                      obtain ⟨b21, b22⟩ := and1 b2
                      have lx : X.env.scope.names.lookup x = some .local := by rw [g.hs]; exact eq_of_beq b11
                      have ly : X.env.scope.names.lookup y = some .local := by rw [g.hs]; exact eq_of_beq b21
                      have hij : i ≠ j := fun z => by subst z; exact (List.nodup_cons.mp a3).1 List.mem_cons_self
                      have hxy : x ≠ y := fun z => hij (nodup_ix nd hi1 (by rw [z]; exact hi2))
                      cases r2 with
                      | nil =>
                        have hlen : xs.length = 2 := (eq_of_beq a2).symm
                        match xs, hlen with
                        | [a, c], _ =>
                          have hw2 := sw2 (kt := kk) (k2 := k2) (pt := pt) (pt2 := pt2) hk lx ly b22 hxy hst a5 a6
                          refine (ps_mono (ps_par g.calm nd hi1 hi2 hij lx ly ha hw2 sw_tup) fun D σ H hq => ?_).run pins s σ H D I hw
                          refine tM_mono (par_red hn hq) fun vs H1 ⟨hl, q⟩ => ?_
                          match vs, hl with
                          | [v, w], _ => exact ⟨v, w, rfl, q⟩
                      | @cons l z pz is3 tns hi3 hl3 hf3 r3 =>
                        have b3 := List.all_eq_true.mp a4 (.Name z pz) (List.mem_cons_of_mem _ (List.mem_cons_of_mem _ List.mem_cons_self))
                        obtain ⟨b31, b32⟩ := and1 b3
                        have lz : X.env.scope.names.lookup z = some .local := by rw [g.hs]; exact eq_of_beq b31
                        have hil : i ≠ l := fun z => by subst z; exact (List.nodup_cons.mp a3).1 (List.mem_cons_of_mem _ List.mem_cons_self)
                        have hjl : j ≠ l := fun z => by subst z; exact (List.nodup_cons.mp (List.nodup_cons.mp a3).2).1 List.mem_cons_self
                        have hxz : x ≠ z := fun q => hil (nodup_ix nd hi1 (by rw [q]; exact hi3))
                        have hyz : y ≠ z := fun q => hjl (nodup_ix nd hi2 (by rw [q]; exact hi3))
                        cases r3 with
                        | cons _ _ _ _ =>
                          exfalso
                          rcases Bool.or_eq_true_iff.mp a1 with q | q
                          · have := eq_of_beq q; simp at this
                          · have := eq_of_beq q; simp at this
                        | nil =>
                          have hlen : xs.length = 3 := (eq_of_beq a2).symm
                          match xs, hlen with
                          | [a, c, d], _ =>
                            have hw3 := sw3 (kt := kk) (k2 := k2) (pt := pt) (pt2 := pt2) hk lx ly lz b22 b32 hxy hxz hyz hst a5 a6
                            exact (ps_mono (ps_par3 g.calm nd hi1 hi2 hi3 hij hil hjl lx ly lz ha hw3) fun D σ H hq => par_red hn hq).run pins s σ H D I hw
                · obtain ⟨b1, b2⟩ := and1 hB
                  refine ps_mono (ps_parG g.calm nd nok (by have := of_decide_eq_true h3; rw [sizeLine_eq]; omega) ha (swN g.hs b2)) fun D σ H hq => par_red hn hq
            | _ => cases h
        | _ => cases tgs <;> cases h
    | _ => cases h
  | .setix i kx e, C, X, W, st, g, b, h => by
    cases st with
    | Assign tgs x p =>
      cases tgs with
      | nil => cases h
      | cons tg tgs =>
        cases tg with
        | Subscript o sl p2 =>
          cases o with
          | Name y py =>
            cases tgs with
            | cons _ _ => cases h
            | nil =>
              obtain ⟨h1, h⟩ := and1 (show (decide (C.N[i]? = some y) && (visB C y && (plainB y && (chkE nm kx C sl && (chkE nm e C x && !isComp x))))) = true from h)
              obtain ⟨h2, h⟩ := and1 h
              obtain ⟨h3, h⟩ := and1 h
              obtain ⟨h4, h⟩ := and1 h
              obtain ⟨h5, h6⟩ := and1 h
              have hv : PE X (.Name y py) (tVar i) := pe_var (i := i) (by rw [g.hN]; exact of_decide_eq_true h1) (g.vis h2) (plain_db h3).1 (plain_db h3).2
              have hne : isComp x = false := by simpa using h6
              have hg := pg_sub (pos := p2) hv (sE (T := T) kx g b.tk h4).1 set_list (by
                cases sl <;> first
                  | exact (chk_slice h4).elim
                  | exact fun _ => rfl)
              refine ps_mono (ps_asg (sE (T := T) e g b.tk h5).1 hg (show swapsWith x (some (.Subscript (.Name y py) sl p2)) p.line X.env = pure false from sw_no hne) (by cases x <;> rfl) rfl) fun D σ H hq => setix_red hq
          | _ => cases tgs <;> cases h
        | _ => cases tgs <;> cases h
    | _ => cases h
  | .setd i kx e, C, X, W, st, g, b, h => by
    cases st with
    | Assign tgs x p =>
      cases tgs with
      | nil => cases h
      | cons tg tgs =>
        cases tg with
        | Subscript o sl p2 =>
          cases o with
          | Name y py =>
            cases tgs with
            | cons _ _ => cases h
            | nil =>
              obtain ⟨h1, h⟩ := and1 (show (decide (C.N[i]? = some y) && (visB C y && (plainB y && (chkE nm kx C sl && (chkE nm e C x && !isComp x))))) = true from h)
              obtain ⟨h2, h⟩ := and1 h
              obtain ⟨h3, h⟩ := and1 h
              obtain ⟨h4, h⟩ := and1 h
              obtain ⟨h5, h6⟩ := and1 h
              have hv : PE X (.Name y py) (tVar i) := pe_var (i := i) (by rw [g.hN]; exact of_decide_eq_true h1) (g.vis h2) (plain_db h3).1 (plain_db h3).2
              have hne : isComp x = false := by simpa using h6
              have hg := pg_sub (pos := p2) hv (sE (T := T) kx g b.tk h4).1 (set_dict g.hK g.hw g.hu) (by
                cases sl <;> first
                  | exact (chk_slice h4).elim
                  | exact fun _ => rfl)
              refine ps_mono (ps_asg (sE (T := T) e g b.tk h5).1 hg (show swapsWith x (some (.Subscript (.Name y py) sl p2)) p.line X.env = pure false from sw_no hne) (by cases x <;> rfl) rfl) fun D σ H hq => setd_red hq
          | _ => cases tgs <;> cases h
        | _ => cases tgs <;> cases h
    | _ => cases h
  | .aug i op e, C, X, W, st, g, b, h => by
    cases st with
    | AugAssign tg op' x p =>
      cases tg with
      | Name y py =>
        obtain ⟨h1, h⟩ := and1 (show (decide (op = op') && (decide (C.N[i]? = some y) && (locB C y && chkE nm e C x))) = true from h)
        obtain ⟨h2, h⟩ := and1 h
        obtain ⟨h3, h4⟩ := and1 h
        have e1 : op = op' := of_decide_eq_true h1
        subst e1
        obtain ⟨l1, l2⟩ := g.loc h3
        exact ps_mono (ps_aug (by rw [g.hN]; exact g.nd) (by rw [g.hN]; exact of_decide_eq_true h2) l1 (sE (T := T) e g b.tk h4).1 (aug_ok g.hK op) l2) fun D σ H hq => aug_red hq
      | _ => cases h
    | _ => cases h
  | .augix i op kx e, C, X, W, st, g, b, h => by
    cases st with
    | AugAssign tg op' x p =>
      cases tg with
      | Subscript o sl p2 =>
        cases o with
        | Name y py =>
          obtain ⟨h0, h⟩ := and1 (show (decide (op = op') && (decide (C.N[i]? = some y) && (visB C y && (plainB y && (chkE nm kx C sl && chkE nm e C x))))) = true from h)
          obtain ⟨h1, h⟩ := and1 h
          obtain ⟨h2, h⟩ := and1 h
          obtain ⟨h3, h⟩ := and1 h
          obtain ⟨h4, h5⟩ := and1 h
          have e1 : op = op' := of_decide_eq_true h0
          subst e1
          have hv : PE X (.Name y py) (tVar i) := pe_var (i := i) (by rw [g.hN]; exact of_decide_eq_true h1) (g.vis h2) (plain_db h3).1 (plain_db h3).2
          exact ps_mono (ps_augS hv (sE (T := T) kx g b.tk h4).1 (getP g.hK) (sE (T := T) e g b.tk h5).1 (aug_ok g.hK op) set_list (by
            cases sl <;> first
              | exact (chk_slice h4).elim
              | exact fun _ _ _ => rfl)) fun D σ H hq => augix_red hq
        | _ => cases h
      | _ => cases h
    | _ => cases h
  | .ret e, C, X, W, st, g, b, h => by
    cases st with
    | Return v p =>
      cases v with
      | none => cases h
      | some x =>
        refine ps_mono (ps_ret (sE (T := T) e g b.tk (show chkE nm e C x = true from h)).1) fun D σ H ⟨F0, H0, B, F, env, c, go⟩ => ?_
        refine tM_mono (stepE c go) fun x H1 ⟨F1, env1, a, C1, s1, h1, go1⟩ => ?_
        cases e1 : outR env1 a with
        | none => rw [e1] at go1; exact go1.elim
        | some pr =>
          rw [e1] at go1
          exact go1 F1 σ H1 x C1 (ret_res C1 (h1.mono fun a => c.fz) e1)
    | _ => cases h
  | .retN, C, X, W, st, g, b, h => by
    cases st with
    | Return v p =>
      cases v with
      | some _ => cases h
      | none => exact ps_mono ps_retN fun D σ H ⟨F0, H0, B, F, env, c, go⟩ => go F σ H .non c .non
    | _ => cases h
  | .cond t a b', C, X, W, st, g, b, h => by
    cases st with
    | If u xs ys p =>
      obtain ⟨h1, h⟩ := and1 (show (chkE nm t C u && (chkB nm a C xs && chkB nm b' C ys)) = true from h)
      obtain ⟨h2, h3⟩ := and1 h
      refine ps_mono (ps_if (sE (T := T) t g b.tk h1).2 (sB a g b h2) (sB b' g b h3)) fun D σ H ⟨F0, H0, B, F, env, c, go⟩ => ?_
      refine tM_mono (stepE c go) fun k H1 ⟨F1, env1, k', C1, s1, h1, go1⟩ => ?_
      have h1 : k' = k := h1
      subst h1
      cases k' with
      | true => exact ⟨F0, H0, B, F1, env1, C1, go1⟩
      | false => exact ⟨F0, H0, B, F1, env1, C1, go1⟩
    | _ => cases h
  | .whl t b', C, X, W, st, g, b, h => by
    cases st with
    | While u xs ys p =>
      cases ys with
      | cons _ _ => cases h
      | nil =>
        obtain ⟨h1, h2⟩ := and1 (show (chkE nm t C u && chkB nm b' C xs) = true from h)
        exact ps_mono (ps_while b.po (sE (T := T) t g b.tk h1).2 (sB b' g b h2)) fun D σ H hq => while_red hq
    | _ => cases h
  | .loop t it b', C, X, W, st, g, b, h => by
    cases st with
    | For tg iter xs ys p =>
      cases ys with
      | cons _ _ => cases h
      | nil =>
        obtain ⟨h1, h⟩ := and1 (show (chkT t C tg && (chkI nm it C tg iter && chkB nm b' C xs)) = true from h)
        obtain ⟨h2, h3⟩ := and1 h
        exact ps_mono (ps_for b.po g.calm (sI (T := T) it g b.tk h2) (sT g t h1) (sB b' g b h3) (fold_of h2 X.env)) fun D σ H hq => for_red hq
    | _ => cases h
  | .pass, C, X, W, st, g, b, h => by
    cases st with
    | Pass p => exact ps_mono ps_pass fun D σ H ⟨F0, H0, B, F, env, c, go⟩ => go F σ H c
    | _ => cases h
  | .cont, C, X, W, st, g, b, h => by
    cases st with
    | Continue p => exact ps_mono ps_continue fun D σ H ⟨F0, H0, B, F, env, c, go⟩ => go F σ H c
    | _ => cases h
  | .brk, C, X, W, st, g, b, h => by
    cases st with
    | Break p => exact ps_mono ps_break fun D σ H ⟨F0, H0, B, F, env, c, go⟩ => go F σ H c
    | _ => cases h
  | .raise n, C, X, W, st, g, b, h => by
    cases st with
    | Raise e c p =>
      cases e with
      | none => cases h
      | some e =>
        cases e with
        | Call u xs kws p2 =>
          cases u with
          | Name x p3 =>
            cases xs with
            | nil => cases h
            | cons a xs =>
              cases a with
              | Constant v kk p4 =>
                cases v with
                | str m =>
                  cases xs with
                  | cons _ _ => cases h
                  | nil =>
                    cases kws with
                    | cons _ _ => cases h
                    | nil =>
                      cases c with
                      | some _ => cases h
                      | none =>
                        obtain ⟨h1, h⟩ := and1 (show (decide (nm.xc[n]? = some x) && (glB C x && plainB x)) = true from h)
                        obtain ⟨h2, h3⟩ := and1 h
                        have q := g.glo.xc n x (of_decide_eq_true h1)
                        rw [← g.hK] at q
                        obtain ⟨B', newId, initId, bmB, f1, f2⟩ := q.base
                        exact ps_mono (ps_raise g.calm b.tk (pmk_own f1 f2 q.glob q.keep (raises_own q.sub q.ty) (g.gl h2) (plain_db h3).1)) fun D σ H ⟨F0, H0, B, F, env, c, go⟩ => go F σ H _ _ c (.plain n)
                | _ => cases h
              | _ => cases h
          | _ => cases h
        | _ => cases h
    | _ => cases h
  | .try1 b' n h', C, X, W, st, g, b, h => by
    cases st with
    | Try xs hs ys zs p =>
      cases hs with
      | nil => cases h
      | cons hd hs =>
        obtain ⟨ty, nme, suite, hp⟩ := hd
        cases ty with
        | none => cases h
        | some ty =>
          cases ty with
          | Name x p3 =>
            cases nme with
            | some _ => cases h
            | none =>
              cases hs with
              | cons _ _ => cases h
              | nil =>
                cases ys with
                | cons _ _ => cases h
                | nil =>
                  cases zs with
                  | cons _ _ => cases h
                  | nil =>
                    obtain ⟨h1, h⟩ := and1 (show (decide (nm.xc[n]? = some x) && (glB C x && (plainB x && (chkB nm b' C xs && chkH h' suite)))) = true from h)
                    obtain ⟨h2, h⟩ := and1 h
                    obtain ⟨h3, h⟩ := and1 h
                    obtain ⟨h4, h5⟩ := and1 h
                    have q := g.glo.xc n x (of_decide_eq_true h1)
                    rw [← g.hK] at q
                    cases suite with
                    | nil => exact absurd rfl (hd_pss (X := X) h5 0 .none none).1
                    | cons b0 suite =>
                      have ht := ps_try_only (pos := p) (pos' := hp) (np := p3) b.hs b.hf ⟨g.gl h2, (plain_db h3).1, .inl q.glob⟩ b.tk (tb := fun W => tS G T W (evB tb cf b')) (ts := hdT h') (fun W pn xe tk po => sB b' (g.tr pn xe) ⟨tk, po, b.hs, b.hf⟩ h4)
                        (fun a oe cls d pn _ _ => (hd_pss h5 a cls d).2)
                      refine ps_mono ht fun D σ H ⟨F0, H0, B, F, env, c, go⟩ => ⟨F0, H0, B, F, env, c, ?_⟩
                      have go : GoS G T W F0 H0 B (match evB tb cf b' env with
                        | some (.ex x e) => if x.cls = n then evB tb cf h' e else none
                        | r => r) D := go
                      cases e : evB tb cf b' env with
                      | none => rw [e] at go; exact go
                      | some o =>
                        rw [e] at go
                        cases o with
                        | nx e' => exact go
                        | bk e' => exact go
                        | ct e' => exact go
                        | rt r e' => exact go
                        | ex xx e' =>
                          have go2 : GoS G T W F0 H0 B (if xx.cls = n then evB tb cf h' e' else none) D := go
                          clear go
                          split at go2
                          · rename_i hn
                            intro F' σ' H' cls d c' xr
                            cases xr with
                            | plain n' =>
                              have hn : n' = n := hn
                              subst hn
                              exact ⟨true, q.self, fun _ a _ => hd_go h5 c' go2, fun z => nomatch z⟩
                          · exact go2.elim
          | _ => cases h
    | _ => cases h
theorem sB : ∀ (ss : Ss) {C : SC} {X : Cx} {W : WX} {sts : List Stmt}, Good G nm tb cf k C X → Bod X W → chkB nm ss C sts = true → PSs X sts (tS G T W (evB tb cf ss))
  | .nil, C, X, W, sts, g, b, h => by
    cases sts with
    | nil => exact pss_mono pss_nil fun D σ H ⟨F0, H0, B, F, env, c, go⟩ => go F σ H c
    | cons _ _ => cases h
  | .cons s ss, C, X, W, sts, g, b, h => by
    cases sts with
    | nil => cases h
    | cons st sts =>
      obtain ⟨h1, h2⟩ := and1 (show (chkS nm s C st && chkB nm ss C sts) = true from h)
      exact pss_mono (pss_cons (sS s g b h1) (sB ss g b h2)) fun D σ H ⟨F0, H0, B, F, env, c, go⟩ => stepS c go
  | .clr own ss, C, X, W, sts, g, b, h => by
    have h : chkB nm ss C sts = true := h
    refine pss_mono (sB ss g b h) fun D σ H ⟨F0, H0, B, F, env, c, go⟩ => ?_
    have go : GoS G T W F0 H0 B (match clrE env own with
      | some e => evB tb cf ss e
      | none => none) D := go
    cases e : clrE env own with
    | none => rw [e] at go; exact go.elim
    | some e' =>
      rw [e] at go
      exact ⟨F0, H0, B, F, e', clr_all e c, go⟩
  | .frz own ss, C, X, W, sts, g, b, h => by
    have h : chkB nm ss C sts = true := h
    refine pss_mono (sB ss g b h) fun D σ H ⟨F0, H0, B, F, env, c, go⟩ => ?_
    have go : GoS G T W F0 H0 B (evB tb cf ss (frzE env own)) D := go
    obtain ⟨F1, c1⟩ := frz_all (own := own) c
    exact ⟨F0, H0, B, F1, _, c1, go⟩
end
end
end Ev

set_option Elab.async false
set_option linter.all false
set_option maxRecDepth 100000
set_option maxHeartbeats 2000000
/-! The defs; the law's call. -/
namespace Ev
open PySem PySem.Spec L2
open PyProof.Rows hiding St
section
variable {G : Adr} {nm : Nm} {tb : Tab} {cf : CF} {k : Nat} {P : Program} {w : World} {mg : Str → Option Value} {base : Heap}
/-- a def's promise from its body, where nothing is being shown -/
theorem fnG_of {K : PySem.W.Frag} {f : Addr} {name qual : Str} {params : Arguments} {body : List Stmt} {scope : Scope} {dvs : List V} {kws : List (Str × V)} {fd : FuncData} {N ps : List Str} {sp : Sp}
    (D : FunD K name qual params body scope dvs kws f fd) (S : FnScope N ps scope) (len : ∀ vs H Q E, sp vs H Q E → vs.length = ps.length)
    (hb : ∀ (cd : Value) (A : Around) (outer : List PySem.Env) (s : Shared) (H : Hp) (vs : List V) (Q : VK) (E : XK), Room k (A.deeper (envOfC qual scope s.heap.objs.size f cd)) → A.guards = some [] → sp vs H Q E →
      ∃ t, PSs (cxOf (L2.CX P w) P w K mg base N qual scope f cd A outer s H E) body t ∧ t { nx := fun _ H' => Q .non H', rt := Q } (L2.start N vs) H) : FnG P w K mg base (k + 1) f fd ps sp := by
  obtain ⟨c1, o1, d1, k1, doc, m1, a1, cd, t1, sl, rfl, at_, code, _, _⟩ := D.ex
  refine ⟨len, fun A outer s H args us vs Q E room guards env bind vals prom => ?_⟩
  have inK : K.In s.heap := env.mod.kin.keeps fun b o e => (env.bs b o e).1
  have noLim : s.heap.NoLimit := env.mod.nolimit.keeps fun b o e => (env.bs b o e).1
  have kinds : ∀ y ∈ ps.zip us, scope.names.lookup y.1 = some .local ∨ (scope.names.lookup y.1 = some .cell ∧ ((cellsFrom (s.heap.objs.size + 1) scope.names []).lookup y.1).isSome = true) := by
    rintro ⟨n, v⟩ hy
    exact (S.par n (List.of_mem_zip hy).1).imp id fun q => ⟨q, PySem.W.cellsFrom_some _ _ _ (.inl q)⟩
  refine codeAny_call_function room.depth (inK _ _ at_) rfl S.co S.gen rfl (PySem.W.codeRec_of inK code) (bind _ _ _ _ ?_)
  refine wpAny_newFunctionEnv_cells S.kind kinds fun env2 he s1 x => ?_
  subst he
  refine ⟨noLim.keeps x.toInCall.keep, codeAny_func ?_⟩
  obtain ⟨t, bodyOk, tq⟩ := hb cd A outer s H vs Q E (room.deeper _) guards prom
  have I0 := inv_start (CX := L2.CX P w) (E := E) S room.hd env (len _ _ _ _ prom) vals x
  refine wpAny_mono (bodyOk.run [] s1 (L2.start N vs) H _ I0 tq) (fun fl s' h => ?_) fun e s' h => h
  cases fl with
  | ret u =>
    obtain ⟨v, σ', H', J, rv, q⟩ := h
    exact ⟨v, H', J.os, J.bare, J.base, J.hok, rv, q⟩
  | next =>
    obtain ⟨σ', H', J, q⟩ := h
    exact ⟨.non, H', J.os, J.bare, J.base, J.hok, rfl, q⟩
  | brk =>
    obtain ⟨_, _, _, q⟩ := h
    exact q.elim
  | cont =>
    obtain ⟨_, _, _, q⟩ := h
    exact q.elim
/-! ### the state at a def's entry -/
theorem start_at {N : List Str} {vs : List V} (hl : vs.length ≤ N.length) {i : Nat} (h : i < N.length) : (L2.start N vs)[i]? = some (vs[i]?) := by
  unfold L2.start
  by_cases q : i < vs.length
  · rw [List.getElem?_append_left (by simpa using q), List.getElem?_map, List.getElem?_eq_getElem q]; rfl
  · rw [List.getElem?_append_right (by simpa using q), List.getElem?_replicate, List.getElem?_eq_none (l := vs) (by omega), if_pos (by rw [List.length_map]; omega)]
theorem start_len {N : List Str} {vs : List V} (hl : vs.length ≤ N.length) : (L2.start N vs).length = N.length := by
  unfold L2.start
  rw [List.length_append, List.length_map, List.length_replicate]; omega
theorem cond_start {F H : Hp} {vs : List V} {args : List Sl} {N : List Str} (ar : ArgsR G F H vs args) (hl : vs.length ≤ N.length) : Cond G (TArg vs) F H (BArg vs args) F (L2.start N vs) H (args ++ List.replicate (N.length - args.length) .un) := by
  have le : args.length ≤ N.length := by rw [ar.len]; exact hl
  have lenE : (args ++ List.replicate (N.length - args.length) Sl.un).length = N.length := by rw [List.length_append, List.length_replicate]; omega
  -- what a slot is
  have at_ : ∀ {i : Nat} {s : Sl}, (args ++ List.replicate (N.length - args.length) Sl.un)[i]? = some s → (args[i]? = some s) ∨ (args.length ≤ i ∧ s = .un) := fun {i s} h => by
    by_cases q : i < args.length
    · rw [List.getElem?_append_left q] at h; exact .inl h
    · rw [List.getElem?_append_right (by omega), List.getElem?_replicate] at h
      split at h
      · cases h; exact .inr ⟨by omega, rfl⟩
      · cases h
  have atO : ∀ {i : Nat} {b : Bool} {o : Ob}, (args ++ List.replicate (N.length - args.length) Sl.un)[i]? = some (.ow b o) → args[i]? = some (.ow b o) := fun {i b o} h => by
    rcases at_ h with h | ⟨_, h⟩
    · exact h
    · cases h
  have val : ∀ {i : Nat} {a : Addr}, (L2.start N vs)[i]? = some (some (V.ref a)) → vs[i]? = some (V.ref a) := fun {i a} h => by
    have hi : i < N.length := by rw [← start_len hl]; exact (List.getElem?_eq_some_iff.mp h).1
    rw [start_at hl hi] at h
    exact Option.some.inj h
  refine ⟨⟨ar.same, by rw [lenE, start_len hl], fun i s h => ?_, fun i j a b c o p _ _ h3 h4 => ar.one i j b c o p (atO h3) (atO h4), fun i o h => ?_⟩, Same.refl _, fun a h1 h2 => absurd h2 h1, fun _ _ h _ => h, fun a ⟨i, b, o, h1, h2⟩ => .inr ⟨i, b, o, val h1, atO h2⟩⟩
  · have hi : i < N.length := by rw [← lenE]; exact (List.getElem?_eq_some_iff.mp h).1
    rw [start_at hl hi]
    rcases at_ h with h | ⟨h3, rfl⟩
    · obtain ⟨x, h1, h2, _⟩ := ar.sl i s h
      exact ⟨some x, by rw [h1], h2⟩
    · exact ⟨none, by rw [List.getElem?_eq_none (by rw [← ar.len]; exact h3)], .un⟩
  · obtain ⟨x, h1, h2, _⟩ := ar.sl i _ (atO h)
    cases h2 with
    | @ow a b o u k1 k2 k3 =>
      have hi : i < N.length := by
        rw [← lenE]; exact (List.getElem?_eq_some_iff.mp h).1
      exact ⟨a, by rw [start_at hl hi, h1], h1⟩
/-- a def as the table has it -/
structure DefOk (G : Adr) (nm : Nm) (d : Def) (f : Nat) (fd : FuncData) (ps : List Str) : Prop where
  ex : ∃ (name qual : Str) (params : Arguments) (body : List Stmt) (scope : Scope) (dvs : List V) (kws : List (Str × V)) (N : List Str), FunD G.K name qual params body scope dvs kws (G.fn f) fd ∧ FnScope N ps scope ∧ N.length = d.ns ∧ ps.length = d.np ∧ chkB nm d.body ⟨N, scope, fun _ => true⟩ body = true
  binds : Binds G.K fd ps []
theorem spF_none {f np : Nat} {vs : List V} {H : Hp} {Q : VK} {E : XK} {cf : CF} (h : spF G cf f np vs H Q E) (hn : ∀ args, cf f args = none) : False := by
  obtain ⟨_, F, args, c, _, e, _⟩ := h
  rw [hn] at e; cases e
/-- the promise of one def, the others' at the level below -/
theorem def_step (hwG : w = G.w) {d : Def} {f : Nat} {fd : FuncData} {ps : List Str} (D : DefOk G nm d f fd ps) (htb : tb.fns f = some d) (Gl : GloOk G nm tb mg) (ih : FnsOk G nm tb (callF tb k) k P w mg base) :
    FnG P w G.K mg base (k + 1) (G.fn f) fd ps (spF G (callF tb (k + 1)) f d.np) := by
  obtain ⟨name, qual, params, body, scope, dvs, kws, N, FD, S, hN, hp, hc⟩ := D.ex
  have hpl : ps.length ≤ N.length := by have := congrArg List.length S.pre; rw [List.length_take] at this; omega
  refine fnG_of FD S (fun vs H Q E h => by rw [h.1, hp]) fun cd A outer s H vs Q E room guards prom => ?_
  obtain ⟨hl, F, args, c, ar, ec, fin⟩ := prom
  generalize hX : cxOf (L2.CX P w) P w G.K mg base N qual scope (G.fn f) cd A outer s H E = X
  have g : Good G nm tb (callF tb k) k ⟨N, scope, fun _ => true⟩ X := by
    subst hX
    exact ⟨rfl, hwG, rfl, S.nd, rfl, rfl, rfl, room, guards, ih, Gl⟩
  have bod : Bod X (fun cls d _ H' => E cls d H') := by
    subst hX
    exact ⟨takes_of rfl rfl rfl rfl, passes_of rfl, rfl, rfl⟩
  refine ⟨_, sB (T := TArg vs) d.body g bod hc, ?_⟩
  have ec : runDef tb (callF tb k) d args = some c := by
    have : callF tb (k + 1) f args = (match tb.fns f with
      | some d => runDef tb (callF tb k) d args
      | none => none) := rfl
    rw [this, htb] at ec
    exact ec
  unfold runDef at ec
  split at ec
  · rename_i hna
    refine ⟨F, H, BArg vs args, F, args ++ List.replicate (d.ns - d.np) .un, ?_, ?_⟩
    · have := cond_start ar (N := N) (by rw [hl, ← hp]; exact hpl)
      rw [hN, hna.1] at this
      exact this
    · cases e : evB tb (callF tb k) d.body (args ++ List.replicate (d.ns - d.np) .un) with
      | none => rw [e] at ec; cases ec
      | some o =>
        rw [e] at ec
        cases o with
        | nx e' => cases ec; exact fun F' σ' H' c => fin .non σ' F' H' c .non
        | rt r e' => cases ec; exact fun F' σ' H' v c p => fin v σ' F' H' c p
        | ex x e' => cases ec; exact fun F' σ' H' cls d c xr => fin cls d σ' F' H' c xr
        | bk e' => cases ec
        | ct e' => cases ec
  · cases ec
/-- all defs, at every level -/
theorem fns_ok (hwG : w = G.w) (Gl : GloOk G nm tb mg) (hd : ∀ (f : Nat) (x : Str), nm.fn[f]? = some x → ∃ d fd ps, tb.fns f = some d ∧ DefOk G nm d f fd ps) : ∀ k, FnsOk G nm tb (callF tb k) k P w mg base
  | 0 => ⟨fun f x h => by
    obtain ⟨d, fd, ps, h1, h2⟩ := hd f x h
    exact ⟨d, fd, ps, h1, ⟨fun vs H Q E h => (spF_none h fun _ => rfl).elim, fun A outer s H args us vs Q E _ _ _ _ _ h => (spF_none h fun _ => rfl).elim⟩, h2.binds⟩⟩
  | k + 1 => ⟨fun f x h => by
    obtain ⟨d, fd, ps, h1, h2⟩ := hd f x h
    exact ⟨d, fd, ps, h1, def_step hwG h2 h1 Gl (fns_ok hwG Gl hd k), h2.binds⟩⟩
end
end Ev

set_option Elab.async false
set_option linter.all false
set_option maxRecDepth 100000
set_option maxHeartbeats 2000000
/-! The head's facts for the evaluator; the law's end. -/
namespace Ev
open PySem PySem.Spec L2 He
open PyProof.Rows hiding St

/-! ### the module's constants -/
mutual
def repB (K : PySem.W.Frag) : D → Value → Bool
  | .non, .none => true
  | .bl b, .bool c => b == c
  | .int i, .int j _ => decide (i = j)
  | .str s, .str t _ => decide (s = t)
  | .tup l, .ref a => (match K.lookup a with
    | some ⟨.type c, _, .seq its _, _⟩ => decide (c = "tuple") && (decide (its.size ≤ sizeLine) && repBL K l its.toList)
    | _ => false)
  | .scr l, .ref a => (match K.lookup a with
    | some ⟨.type c, none, .seq its _, _⟩ => decide (c = "list") && (decide (its.size ≤ sizeLine) && repBL K l its.toList)
    | _ => false)
  | _, _ => false
def repBL (K : PySem.W.Frag) : List D → List Value → Bool
  | [], [] => true
  | d :: ds, v :: vs => repB K d v && repBL K ds vs
  | _, _ => false
end
section
variable {G : Adr}
mutual
theorem repB_ok : ∀ (d : D) {v : Value}, repB G.K d v = true → ∃ x, RelV x v ∧ ∀ F, Rep G F x d
  | .non, v, h => by
    cases v with
    | none => exact ⟨.non, rfl, fun _ => .non⟩
    | _ => cases h
  | .bl b, v, h => by
    cases v with
    | bool c =>
      have e := eq_of_beq (show (b == c) = true from h)
      subst e
      exact ⟨.bl b, rfl, fun _ => .bl b⟩
    | _ => cases h
  | .int i, v, h => by
    cases v with
    | int j t =>
      have e : i = j := of_decide_eq_true h
      subst e
      exact ⟨.int i, ⟨t, rfl⟩, fun _ => .int i⟩
    | _ => cases h
  | .str s, v, h => by
    cases v with
    | str u t =>
      have e : s = u := of_decide_eq_true h
      subst e
      exact ⟨.str s, ⟨t, rfl⟩, fun _ => .str s⟩
    | _ => cases h
  | .tup l, v, h => by
    cases v with
    | ref a =>
      have h : (match G.K.lookup a with
        | some ⟨.type c, _, .seq its _, _⟩ => decide (c = "tuple") && (decide (its.size ≤ sizeLine) && repBL G.K l its.toList)
        | _ => false) = true := h
      cases q : G.K.lookup a with
      | none => rw [q] at h; cases h
      | some o =>
        obtain ⟨oc, od, dt, sl⟩ := o
        rw [q] at h
        cases oc with
        | type c =>
          cases dt with
          | seq its n =>
            obtain ⟨h1, h⟩ := and1 (show (decide (c = "tuple") && (decide (its.size ≤ sizeLine) && repBL G.K l its.toList)) = true from h)
            obtain ⟨h2, h3⟩ := and1 h
            obtain ⟨xs, r1, r2⟩ := repBL_ok l h3
            exact ⟨.ref a, rfl, fun F => .tup (.inr ⟨_, its, n, q, congrArg Value.type (of_decide_eq_true h1), rfl, of_decide_eq_true h2, r1⟩) (r2 F)⟩
          | _ => cases h
        | _ => cases dt <;> cases h
    | _ => cases h
  | .scr l, v, h => by
    cases v with
    | ref a =>
      have h : (match G.K.lookup a with
        | some ⟨.type c, none, .seq its _, _⟩ => decide (c = "list") && (decide (its.size ≤ sizeLine) && repBL G.K l its.toList)
        | _ => false) = true := h
      cases q : G.K.lookup a with
      | none => rw [q] at h; cases h
      | some o =>
        obtain ⟨oc, od, dt, sl⟩ := o
        rw [q] at h
        cases oc with
        | type c =>
          cases od with
          | some _ => cases dt <;> cases h
          | none =>
            cases dt with
            | seq its n =>
              obtain ⟨h1, h⟩ := and1 (show (decide (c = "list") && (decide (its.size ≤ sizeLine) && repBL G.K l its.toList)) = true from h)
              obtain ⟨h2, h3⟩ := and1 h
              obtain ⟨xs, r1, r2⟩ := repBL_ok l h3
              exact ⟨.ref a, rfl, fun F => .scr (.inr ⟨_, its, n, q, congrArg Value.type (of_decide_eq_true h1), rfl, rfl, of_decide_eq_true h2, r1⟩) (r2 F)⟩
            | _ => cases h
        | _ => cases od <;> cases dt <;> cases h
    | _ => cases h
  | .lst l, v, h => by cases v <;> cases h
  | .fn f, v, h => by cases v <;> cases h
  | .dct l, v, h => by cases v <;> cases h
theorem repBL_ok : ∀ (l : List D) {vs : List Value}, repBL G.K l vs = true → ∃ xs, Vals xs vs ∧ ∀ F, RepL G F xs l
  | [], vs, h => by
    cases vs with
    | nil => exact ⟨[], .nil, fun _ => .nil⟩
    | cons _ _ => cases h
  | d :: ds, vs, h => by
    cases vs with
    | nil => cases h
    | cons v vs =>
      obtain ⟨h1, h2⟩ := and1 (show (repB G.K d v && repBL G.K ds vs) = true from h)
      obtain ⟨x, r1, r2⟩ := repB_ok d h1
      obtain ⟨xs, r3, r4⟩ := repBL_ok ds h2
      exact ⟨x :: xs, .cons r1 r3, fun F => .cons (r2 F) (r4 F)⟩
end
end
/-! ### a law's table -/
structure DI where
  name : Str
  at_ : Nat
  d : Def
  N : List Str
  ps : List Str
structure Lw where
  defs : List DI
  csts : List (Str × D)
  xcs : List Str
def blts : List String := ["len", "abs", "int", "str", "repr", "tuple", "list", "sorted", "sum", "min", "max", "any", "all", "dict", "isinstance", "range", "zip", "enumerate", "set", "bool"]
namespace Lw
def nm (L : Lw) : Nm := ⟨L.defs.map (·.name), L.csts.map (·.1), L.xcs⟩
def tab (L : Lw) : Tab := ⟨fun i => (L.defs[i]?).map (·.d), fun i => ((L.csts[i]?).map (·.2)).getD .non⟩
def adr (L : Lw) (K : PySem.W.Frag) (w : World) : Adr := ⟨K, fun f => ga K ((L.defs[f]?).map (·.name)|>.getD Str.empty), fun c => ga K (L.xcs[c]?.getD Str.empty), w⟩
def fa (L : Lw) : List Fa := (L.defs.map fun i => Fa.glo i.name) ++ ((L.xcs.map fun x => Fa.glo x) ++ ((blts.map fun (x : String) => Fa.free (Str.ofString x)) ++ ((L.xcs.map fun x => Fa.exc x) ++ (L.xcs.map fun x => Fa.exm x x true))))
def ex (L : Lw) (K : PySem.W.Frag) : Bool := L.csts.all fun c => match PySem.W.nsIn K mainGlobals c.1 with
  | some (some u) => repB K c.2 u
  | _ => false
end Lw
def topOf (p : Program) (i : Nat) : Stmt := p.main.body.getD i (.Pass ⟨0, 0, 0, 0⟩)
def DI.dd (p : Program) (i : DI) : DefD := ⟨(i.name, none), i.name, i.name, defArgs (topOf p i.at_), defBody (topOf p i.at_), defScope (topOf p i.at_), [], []⟩
/-! ### the hook -/
def obsV (ex : PySem.W.Frag → Bool) (fa : List Fa) (fn : List DefD) (K : PySem.W.Frag) : AlD := (ex K && (obsD fa fn K).1, (obsD fa fn K).2)
def obsVG (n : Nat) (ex : PySem.W.Frag → Bool) (fa : List Fa) (fn : List DefD) (g : Addr → Option Obj) : AlD := obsV ex fa fn (frG g (asD g n))
def hookV (n : Nat) (ex : PySem.W.Frag → Bool) (fa : List Fa) (fn : List DefD) : PySem.W.Hook where
  α := AlD
  obs := fun s => obsVG n ex fa fn s.heap.get?
  val := fun _ => valD fn
  says := fun _ h => ∃ K : PySem.W.Frag, K.In h ∧ obsV ex fa fn K = valD fn
  of := fun _ _ e => ⟨_, frG_in, e⟩
  keeps := fun _ _ _ ⟨K, hK, c⟩ k => ⟨K, PySem.W.Frag.In.keeps hK k, c⟩
theorem obsVG_eq {n : Nat} {ex : PySem.W.Frag → Bool} {fa : List Fa} {fn : List DefD} {g : Addr → Option Obj} {s : Shared} (h : ∀ a, g a = s.heap.get? a) : obsVG n ex fa fn g = (hookV n ex fa fn).obs s := by
  have e : g = s.heap.get? := funext h
  rw [e] <;> rfl
theorem saysV {ex : PySem.W.Frag → Bool} {fa : List Fa} {fn : List DefD} {K : PySem.W.Frag} (h : obsV ex fa fn K = valD fn) : ex K = true ∧ SaysD fa fn K := by
  have h1 : (ex K && (obsD fa fn K).1) = true := congrArg (fun z : AlD => z.1) h
  have h2 : (obsV ex fa fn K).2 = (valD fn).2 := congrArg (fun z : AlD => z.2) h
  obtain ⟨a, b⟩ := and1 h1
  exact ⟨a, Prod.ext b h2⟩
theorem says_mem {fa : List Fa} {fn : List DefD} {K : PySem.W.Frag} (c : SaysD fa fn K) {f : Fa} (hf : f ∈ fa) : f.ok K = true := by
  have c1 := (and1 (show ((fa.all fun f => f.ok K) && fn.all fun d => d.ok K) = true from congrArg (fun z : AlD => z.1) c)).1
  exact List.all_eq_true.mp c1 f hf
/-! ### the facts -/
theorem glo_facts {w : World} {L : Lw} {K : PySem.W.Frag} {h : Heap} {mg : Str → Option Value} {fn : List DefD} (X : K.In h) (Gn : h.Ns mainGlobals mg) (he : L.ex K = true) (c : SaysD L.fa fn K) (hk : ∀ i ∈ L.defs, PySem.W.keepIn K (.ref (ga K i.name)) = true) : GloOk (L.adr K w) L.nm L.tab mg := by
  refine ⟨fun f x hx => ?_, fun f d hd => ?_, fun i x hx => ?_, fun n x hx => ?_, fun x hx => ?_⟩
  · have hx : (L.defs.map (·.name))[f]? = some x := hx
    rw [List.getElem?_map] at hx
    cases q : L.defs[f]? with
    | none => rw [q] at hx; cases hx
    | some i =>
      rw [q] at hx
      cases hx
      have hm := List.mem_of_getElem? q
      have e : (L.adr K w).fn f = ga K i.name := by
        show ga K ((L.defs[f]?).map (·.name)|>.getD Str.empty) = _
        rw [q]; rfl
      rw [e]
      exact ⟨glo_ok X Gn (says_mem c (List.mem_append_left _ (List.mem_map.mpr ⟨i, hm, rfl⟩))), hk i hm⟩
  · have hd : (L.defs[f]?).map (·.d) = some d := hd
    cases q : L.defs[f]? with
    | none => rw [q] at hd; cases hd
    | some i => exact ⟨i.name, by show (L.defs.map (·.name))[f]? = _; rw [List.getElem?_map, q]; rfl⟩
  · have hx : (L.csts.map (·.1))[i]? = some x := hx
    rw [List.getElem?_map] at hx
    cases q : L.csts[i]? with
    | none => rw [q] at hx; cases hx
    | some cd =>
      rw [q] at hx
      cases hx
      have h1 := List.all_eq_true.mp he cd (List.mem_of_getElem? q)
      have h1 : (match PySem.W.nsIn K mainGlobals cd.1 with
        | some (some u) => repB K cd.2 u
        | _ => false) = true := h1
      cases q2 : PySem.W.nsIn K mainGlobals cd.1 with
      | none => rw [q2] at h1; cases h1
      | some o =>
        rw [q2] at h1
        cases o with
        | none => cases h1
        | some u =>
          obtain ⟨v, r1, r2⟩ := repB_ok (G := L.adr K w) cd.2 h1
          refine ⟨u, v, PySem.W.mg_of X Gn q2, r1, fun F => ?_⟩
          have e : L.tab.cst i = cd.2 := by
            show ((L.csts[i]?).map (·.2)).getD .non = _
            rw [q]; rfl
          rw [e]
          exact r2 F
  · have hx : L.xcs[n]? = some x := hx
    have hm := List.mem_of_getElem? hx
    have e : (L.adr K w).xc n = ga K x := by
      show ga K (L.xcs[n]?.getD Str.empty) = _
      rw [hx]; rfl
    rw [e]
    have f1 : (Fa.glo x).ok K = true := says_mem c (List.mem_append_right _ (List.mem_append_left _ (List.mem_map.mpr ⟨x, hm, rfl⟩)))
    have f2 : (Fa.exc x).ok K = true := says_mem c (List.mem_append_right _ (List.mem_append_right _ (List.mem_append_right _ (List.mem_append_left _ (List.mem_map.mpr ⟨x, hm, rfl⟩)))))
    have f3 : (Fa.exm x x true).ok K = true := says_mem c (List.mem_append_right _ (List.mem_append_right _ (List.mem_append_right _ (List.mem_append_right _ (List.mem_map.mpr ⟨x, hm, rfl⟩)))))
    obtain ⟨e1, e2, e3, e4⟩ := exc_ok f2
    exact ⟨glo_ok X Gn f1, e2, e3, e4, exm_ok f3, _, _, _, _, PySem.F.excBase_ValueError, e1⟩
  · exact free_ok X Gn (says_mem c (List.mem_append_right _ (List.mem_append_right _ (List.mem_append_left _ (List.mem_map.mpr ⟨x, hx, rfl⟩)))))
def scB (N ps : List Str) (sc : Scope) : Bool := (sc.kind == .function) && ((!sc.isCoroutine) && ((!sc.isGenerator) && (decide N.Nodup && (decide (N.take ps.length = ps) && ((ps.all fun x => sc.names.lookup x == some .local || sc.names.lookup x == some .cell) && sc.names.all fun y => !(y.2 == .free))))))
theorem scB_ok {N ps : List Str} {sc : Scope} (h : scB N ps sc = true) : FnScope N ps sc := by
  obtain ⟨h1, h⟩ := and1 h
  obtain ⟨h2, h⟩ := and1 h
  obtain ⟨h3, h⟩ := and1 h
  obtain ⟨h4, h⟩ := and1 h
  obtain ⟨h5, h⟩ := and1 h
  obtain ⟨h6, h7⟩ := and1 h
  refine ⟨eq_of_beq h1, by simpa using h2, by simpa using h3, of_decide_eq_true h4, of_decide_eq_true h5, fun x hx => ?_, fun y hy => ?_⟩
  · rcases Bool.or_eq_true_iff.mp (List.all_eq_true.mp h6 x hx) with q | q
    · exact .inl (eq_of_beq q)
    · exact .inr (eq_of_beq q)
  · have := List.all_eq_true.mp h7 y hy
    intro e
    rw [e] at this
    cases this
def DI.ok (p : Program) (nm : Nm) (i : DI) : Bool := scB i.N i.ps (defScope (topOf p i.at_)) && (decide (i.N.length = i.d.ns) && (decide (i.ps.length = i.d.np) && chkB nm i.d.body ⟨i.N, defScope (topOf p i.at_), fun _ => true⟩ (defBody (topOf p i.at_))))
def DI.bind (p : Program) (i : DI) : Prop := ∀ (kV doc pm : Value) (an : Option Addr) (cdv ct : Value) (us : List Value), us.length = i.ps.length → bindArgs (PySem.W.fnOf i.name i.name (defArgs (topOf p i.at_)) (defBody (topOf p i.at_)) (defScope (topOf p i.at_)) .none kV doc pm an cdv ct) ⟨us, []⟩ = pure (i.ps.zip us)
def Lw.binds (p : Program) : List DI → Prop
  | [] => True
  | i :: r => i.bind p ∧ Lw.binds p r
theorem binds_mem {p : Program} : ∀ {l : List DI}, Lw.binds p l → ∀ i ∈ l, i.bind p
  | [], _, _, h => by cases h
  | j :: r, h, i, hi => by
    rcases List.mem_cons.mp hi with e | hi
    · rw [e]; exact h.1
    · exact binds_mem h.2 i hi
theorem def_facts (w : World) {p : Program} {L : Lw} {K : PySem.W.Frag} (c : SaysD L.fa (L.defs.map (·.dd p)) K) (ok : (L.defs.all fun i => i.ok p L.nm) = true) (hb : Lw.binds p L.defs) (f : Nat) (x : Str) (hx : L.nm.fn[f]? = some x) :
    ∃ i fd, L.defs[f]? = some i ∧ L.tab.fns f = some i.d ∧ DefOk (L.adr K w) L.nm i.d f fd i.ps ∧ i.name = x ∧ FunD K i.name i.name (defArgs (topOf p i.at_)) (defBody (topOf p i.at_)) (defScope (topOf p i.at_)) [] [] (ga K i.name) fd := by
  have hx : (L.defs.map (·.name))[f]? = some x := hx
  rw [List.getElem?_map] at hx
  cases q : L.defs[f]? with
  | none => rw [q] at hx; cases hx
  | some i =>
    rw [q] at hx
    have hx : i.name = x := Option.some.inj hx
    have hm := List.mem_of_getElem? q
    obtain ⟨fd, F⟩ := c.def_ f (d := i.dd p) (by rw [List.getElem?_map, q]; rfl)
    have F : FunD K i.name i.name (defArgs (topOf p i.at_)) (defBody (topOf p i.at_)) (defScope (topOf p i.at_)) [] [] (ga K i.name) fd := F
    have e : (L.adr K w).fn f = ga K i.name := by
      show ga K ((L.defs[f]?).map (·.name)|>.getD Str.empty) = _
      rw [q]; rfl
    have ho := List.all_eq_true.mp ok i hm
    obtain ⟨o1, ho⟩ := and1 ho
    obtain ⟨o2, ho⟩ := and1 ho
    obtain ⟨o3, o4⟩ := and1 ho
    refine ⟨i, fd, rfl, by show (L.defs[f]?).map (·.d) = _; rw [q]; rfl, ⟨⟨_, _, _, _, _, _, _, i.N, by rw [e]; exact F, scB_ok o1, of_decide_eq_true o2, of_decide_eq_true o3, o4⟩, F.bindsN (binds_mem hb i hm)⟩, hx, F⟩
end Ev

set_option Elab.async false
set_option linter.all false
set_option maxRecDepth 100000
set_option maxHeartbeats 2000000
/-! The law's call; the law. -/
namespace Ev
open PySem PySem.Spec L2 He
open PyProof.Rows hiding St
section
variable {P : Program} {w : World} {K : PySem.W.Frag} {mg mb : Str → Option Value} {k : Nat} {fa a : Addr} {fd : FuncData} {x : Str} {sp : Sp} {s₁ : Shared} {vs : List Value} {ns : List Int}
theorem cx_false {H : Hp} {s s' : Shared} {u : Value} (h : L2.CX P w [] H s (fun _ _ _ => False) u s') : False := by
  obtain ⟨_, _, _, _, _, _, _, _, _, _, _, _, z⟩ := h
  exact z
/-- the script as a thing that is read -/
def scrH (K : PySem.W.Frag) (a : Addr) (ob : Obj) (ns : List Int) : Hp := fun b => match K.lookup a with
  | some _ => none
  | none => if b = a then some (.frz ob (.lst (ns.map V.int))) else none
theorem scrH_only {ob : Obj} : Only (scrH K a ob ns) := fun b => by
  unfold scrH
  cases K.lookup a with
  | some o => exact .inl rfl
  | none =>
    by_cases hb : b = a
    · exact .inr ⟨_, _, if_pos hb⟩
    · exact .inl (if_neg hb)
theorem scrH_at {ob : Obj} {b : Addr} (h : scrH K a ob ns b ≠ none) : b = a ∧ K.lookup a = none := by
  unfold scrH at h
  cases q : K.lookup a with
  | some o => rw [q] at h; exact absurd rfl h
  | none =>
    rw [q] at h
    by_cases hb : b = a
    · exact ⟨hb, rfl⟩
    · exact absurd (if_neg hb) h
/-- the law's def is called with the script -/
theorem callLaw (KX : K.In s₁.heap) (hns : s₁.heap.Ns mainGlobals mg) (hb : s₁.heap.Ns builtinsNs mb) (hbb : ∀ x : Str, x ≠ "__name__" → mb x = bootBuiltins x) (hlim : s₁.heap.NoLimit) (hg : s₁.gens = #[])
    (ha : s₁.heap.get? a = some { cls := .type "list", data := .seq vs.toArray }) (hi : IntsAre vs ns) (hl : ns.length ≤ sizeLine) (hr : Room k callerA)
    (F : ∀ base : Heap, K.In base → base.Ns mainGlobals mg → FnG P w K mg base k fa fd [x] sp) (hbind : ∀ (s : Shared) (u : Value), BindsTo s fd ⟨[u], []⟩ [(x, u)])
    (hsp : ∀ H : Hp, Only H → SqL K H a (ns.map V.int) → sp [.ref a] H (fun v _ => v = .bl true) fun _ _ _ => False) :
    codeAny (model P w) callerA (.call (.ref fa) ⟨[.ref a], []⟩) (fun r s' => r = .ok (.ret (.bool true)) ∧ OldK s₁.heap s'.heap ∧ s'.os = s₁.os ∧ AllBare s'.gens) s₁ := by
  have rv := vals_ints hi
  have lenV := hi.length
  generalize hob : ({ cls := .type "list", data := .seq vs.toArray } : Obj) = ob at ha
  have hO := scrH_only (K := K) (a := a) (ob := ob) (ns := ns)
  generalize hH : scrH K a ob ns = H at hO
  have atA : ∀ b, H b ≠ none → b = a ∧ K.lookup a = none := fun b z => scrH_at (by rw [hH]; exact z)
  -- the script is a list that may be read
  have hS : SqL K H a (ns.map V.int) := by
    cases q : K.lookup a with
    | some o =>
      have e := KX a o q
      rw [ha] at e
      cases e
      subst hob
      exact .inr ⟨_, vs.toArray, _, q, rfl, rfl, rfl, by rw [List.size_toArray, lenV]; exact hl, by simpa using rv⟩
    | none =>
      refine .inl (.inr ⟨ob, ?_⟩)
      rw [← hH]
      unfold scrH
      rw [q]
      exact if_pos rfl
  have hok : HOk P w H s₁.heap := fun b u z => by
    have nz : H b ≠ none := by rw [z]; simp
    obtain ⟨e1, e2⟩ := atA b nz
    subst e1
    rw [← hH] at z
    unfold scrH at z
    rw [e2] at z
    have z' := (if_pos rfl).symm.trans z
    cases z'
    subst hob
    exact ⟨ha, by rw [List.length_map]; exact hl, vs, _, rv, ha⟩
  have inB : ∀ {b : Addr} {o : Obj}, s₁.heap.get? b = some o → H b = none → (hidT s₁.heap H).get? b = some o := fun e n => hidT_get e n
  have dictN : ∀ {b : Addr} {o : Obj} {es : Array DictEntry} {ep : Nat}, s₁.heap.get? b = some o → o.data = .dict es ep → H b = none := fun {b o es ep} e d => by
    refine Decidable.byContradiction fun z => ?_
    obtain ⟨e1, _⟩ := atA b z
    subst e1
    rw [ha] at e
    cases e
    subst hob
    cases d
  have nsB : ∀ {b : Addr} {m : Str → Option Value}, s₁.heap.Ns b m → (hidT s₁.heap H).Ns b m := fun {b m} ⟨o, es, ep, e, d, r⟩ => ⟨o, es, ep, inB e (dictN e d), d, r⟩
  have kB : K.In (hidT s₁.heap H) := fun b o e => inB (KX b o e) (by
    refine Decidable.byContradiction fun z => ?_
    obtain ⟨e1, e2⟩ := atA b z
    subst e1
    rw [e2] at e
    cases e)
  have md : Mod K mg (hidT s₁.heap H) := ⟨kB, nsB hns, ⟨mb, nsB hb, hbb⟩, let ⟨mc, h1, h2⟩ := hlim; ⟨mc, nsB h1, h2⟩⟩
  have env : Env0 P w K mg (hidT s₁.heap H) callerA [] s₁ H := ⟨rfl, md, fun b o e => of_hidT e, Nat.le_of_eq (hidT_size _ _), trivial, fun b hb => (nomatch hb), hok, .of_eq hg⟩
  refine codeAny_mono ((F _ kB (nsB hns)).run callerA [] s₁ H ⟨[.ref a], []⟩ [.ref a] [.ref a] _ _ hr rfl env (hbind s₁ (.ref a)) (.cons rfl .nil) (hsp H hO hS)) fun r s' h => ?_
  cases r with
  | error e => exact (cx_false h).elim
  | ok fl =>
    cases fl with
    | next => exact h.elim
    | brk => exact h.elim
    | cont => exact h.elim
    | ret u =>
      obtain ⟨v, H', os, bare, un, hok', r', q⟩ := h
      have q' : v = .bl true := q
      subst q'
      obtain rfl : u = Value.bool true := r'
      refine ⟨rfl, OldK.of_keep fun b o e => ?_, os, bare⟩
      rcases hO b with z | ⟨o2, xs, z⟩
      · exact un.keep b o e z (fun y => nomatch y) (fun y => nomatch y)
      · obtain ⟨e1, _⟩ := hok b _ z
        obtain ⟨e2, _⟩ := hok' b _ (un.frzs b o2 _ z)
        rw [e] at e1
        cases e1
        exact e2
end
/-- the law's walk, from the evaluator's answer -/
theorem walk_ev {l : PySem.W.OpenLaw} {n k : Nat} {q : Program} {loose : List Str} {XP : (Str → Option Value) → Heap → Prop} {d : DefRec} {L : Lw} {hn0 : Nat} {f : Nat} {i : DI}
    (hn : l.most = some n) (hn2 : n ≤ sizeLine) (hdf : d.params.defaults = []) (hr : Room k callerA) (hi : L.defs[f]? = some i) (hnm : d.name = i.name) (hps : i.ps = [("script" : Str)]) (hnp : i.d.np = 1)
    (ok : (L.defs.all fun i => i.ok l.prog L.nm) = true) (hb : Lw.binds l.prog L.defs)
    (law : ∀ ns : List Int, ns.length ≤ n → ∃ e, callF L.tab k f [.v (.scr (ns.map D.int))] = some (.ret (.v (.bl true)) e)) :
    PySem.W.WalkO q loose XP (hookV hn0 L.ex L.fa (L.defs.map (·.dd l.prog))).says l.row.toRowW d [] (fun f vs => PySem.call f vs) := by
  refine Att.attach_call hn hdf fun w s₀ s₁ mg mb fa o pm cd doc a vs ns Gr Y ho hd hcd hmg hobj hints hlen hg => ?_
  obtain ⟨K, KX, c0⟩ := Y
  obtain ⟨he, c⟩ := saysV c0
  have hk : ∀ i ∈ L.defs, PySem.W.keepIn K (.ref (ga K i.name)) = true := fun i hi => by
    obtain ⟨j, hj, e⟩ := List.getElem_of_mem hi
    have hx : L.nm.fn[j]? = some i.name := by
      show (L.defs.map (·.name))[j]? = _
      rw [List.getElem?_map, List.getElem?_eq_getElem hj, e]; rfl
    obtain ⟨i', fd, q1, _, _, _, F⟩ := def_facts w c ok hb j i.name hx
    rw [List.getElem?_eq_getElem hj, e] at q1
    cases q1
    exact F.kp
  have Gl := glo_facts (w := w) KX Gr.T.g he c hk
  have hx : L.nm.fn[f]? = some i.name := by
    show (L.defs.map (·.name))[f]? = _
    rw [List.getElem?_map, hi]; rfl
  obtain ⟨i', fd, q1, q2, q3, _, FD⟩ := def_facts w c ok hb f i.name hx
  rw [hi] at q1
  cases q1
  have efa : fa = (L.adr K w).fn f := by
    have e1 := (Gl.fn f i.name hx).1
    rw [hnm, e1] at hmg
    cases hmg
    rfl
  subst efa
  refine callLaw (fd := fd) (x := "script") (sp := spF (L.adr K w) (callF L.tab k) f 1) KX Gr.T.g Gr.T.b Gr.T.builtins Gr.T.nolimit hg hobj hints (Nat.le_trans hlen hn2) hr (fun base kb nb => ?_) (fun s u => ?_) fun H hO hS => ?_
  · have hall : ∀ (g : Nat) (y : Str), L.nm.fn[g]? = some y → ∃ d fd ps, L.tab.fns g = some d ∧ DefOk (L.adr K w) L.nm d g fd ps := fun g y hy => by
      obtain ⟨i', fd, _, z2, z3, _⟩ := def_facts w c ok hb g y hy
      exact ⟨_, fd, _, z2, z3⟩
    rw [hps] at q3
    cases k with
    | zero => exact ⟨fun vs H Q E h => (spF_none h fun _ => rfl).elim, fun A outer s H args us vs Q E _ _ _ _ _ h => (spF_none h fun _ => rfl).elim⟩
    | succ k =>
      have st := def_step (P := l.prog) (w := w) (base := base) rfl q3 q2 Gl (fns_ok rfl Gl hall k)
      rw [hnp] at st
      exact st
  · have := FD.bindsA (ps := i.ps) (binds_mem hb i (List.mem_of_getElem? hi)) s [u] (by rw [hps]; rfl)
    rw [hps] at this
    exact this
  · obtain ⟨e, he'⟩ := law ns hlen
    refine ⟨rfl, H, [.v (.scr (ns.map D.int))], _, ⟨Same.refl _, rfl, fun j s hs => ?_, fun j m b c o p h1 h2 => ?_⟩, he', fun v σ' F' H' _ pr => ?_⟩
    · match j, hs with
      | 0, hs =>
        cases hs
        exact ⟨.ref a, rfl, .v (.scr hS (RepL.ofInts ns)), fun o z => nomatch z⟩
      | j + 1, hs => simp at hs
    · match j, h1 with
      | 0, h1 => cases h1
      | j + 1, h1 => simp at h1
    · have pr : Rep (L.adr K w) F' v (.bl true) := pr
      cases pr
      rfl
end Ev

set_option Elab.async false
set_option linter.all false
set_option maxRecDepth 100000
set_option maxHeartbeats 1000000
/-! The evaluator, worked out: what all laws share. -/
namespace Ev
open PySem
@[simp] theorem eqD_int (i j : Int) : eqD (.int i) (.int j) = some (i == j) := rfl
@[simp] theorem eqD_bl (i j : Bool) : eqD (.bl i) (.bl j) = some (i == j) := by cases i <;> cases j <;> rfl
theorem call_eq {tb : Tab} {k f : Nat} {d : Def} {args : List Sl} (h : tb.fns f = some d) : callF tb (k+1) f args = runDef tb (callF tb k) d args := by
  show (match tb.fns f with | some d => runDef tb (callF tb k) d args | none => none) = _
  rw [h]
theorem ix_lst (l : List D) (n : Nat) : ixD (.lst l) (.int (n : Int)) = l[n]? := by
  show (L2.ixN l.length (n : Int)).bind (fun j => l[j]?) = _
  unfold L2.ixN
  rw [if_pos (Int.natCast_nonneg n)]
  by_cases h : n < l.length
  · rw [if_pos (by omega)]; rfl
  · rw [if_neg (by omega), List.getElem?_eq_none (by omega)]; rfl
theorem ix_tup (l : List D) (n : Nat) : ixD (.tup l) (.int (n : Int)) = l[n]? := by
  show (L2.ixN l.length (n : Int)).bind (fun j => l[j]?) = _
  unfold L2.ixN
  rw [if_pos (Int.natCast_nonneg n)]
  by_cases h : n < l.length
  · rw [if_pos (by omega)]; rfl
  · rw [if_neg (by omega), List.getElem?_eq_none (by omega)]; rfl
@[simp] theorem ixT0 (a : D) (l : List D) : ixD (.tup (a :: l)) (.int 0) = some a := ix_tup (a :: l) 0
@[simp] theorem ixT1 (a b : D) (l : List D) : ixD (.tup (a :: b :: l)) (.int 1) = some b := ix_tup (a :: b :: l) 1
@[simp] theorem ixT2 (a b c : D) (l : List D) : ixD (.tup (a :: b :: c :: l)) (.int 2) = some c := ix_tup (a :: b :: c :: l) 2
@[simp] theorem ixL0 (a : D) (l : List D) : ixD (.lst (a :: l)) (.int 0) = some a := ix_lst (a :: l) 0
@[simp] theorem ixL1 (a b : D) (l : List D) : ixD (.lst (a :: b :: l)) (.int 1) = some b := ix_lst (a :: b :: l) 1
@[simp] theorem ixL2 (a b c : D) (l : List D) : ixD (.lst (a :: b :: c :: l)) (.int 2) = some c := ix_lst (a :: b :: c :: l) 2
@[simp] theorem ixL3 (a b c d : D) (l : List D) : ixD (.lst (a :: b :: c :: d :: l)) (.int 3) = some d := ix_lst (a :: b :: c :: d :: l) 3
section
variable {tb : Tab} {cf : CF} {env : Env}
@[simp] theorem ev_var (i : Nat) : ev tb cf (.var i) = both fun env => match env[i]? with
    | some (.v d) => some (.ok (.v d) env)
    | some (.ow _ _) => some (.ok (.ow i) env)
    | _ => none := rfl
@[simp] theorem ev_cst (i : Nat) : ev tb cf (.cst i) = both (ret (.v (tb.cst i))) := rfl
@[simp] theorem ev_fn (f : Nat) : ev tb cf (.fn f) = both (ret (.v (.fn f))) := rfl
@[simp] theorem ev_non : ev tb cf .non = both (ret (.v .non)) := rfl
@[simp] theorem ev_bl (b : Bool) : ev tb cf (.bl b) = both (ret (.v (.bl b))) := rfl
@[simp] theorem ev_int (i : Int) : ev tb cf (.int i) = both (ret (.v (.int i))) := rfl
@[simp] theorem ev_str (s : Str) : ev tb cf (.str s) = both (ret (.v (.str s))) := rfl
@[simp] theorem ev_bin (op : Operator) (a b : E) : ev tb cf (.bin op a b) = both (bnd (ev tb cf a).1 fun x => bnd (ev tb cf b).1 fun y => twoP (binD op) x y) := rfl
@[simp] theorem ev_neg (a : E) : ev tb cf (.neg a) = both (bnd (ev tb cf a).1 fun x => oneP (fun d => vP id (negD d)) x) := rfl
@[simp] theorem ev_not (a : E) : ev tb cf (.not a) = (bnd (ev tb cf a).1 fun x => oneP (fun d => vP (fun k => .bl (!k)) (truthD d)) x, bnd (ev tb cf a).2 fun b => ret (!b)) := rfl
@[simp] theorem ev_and (a b : E) : ev tb cf (.and a b) = (bnd (ev tb cf a).1 fun x => bnd (isBl x) fun k => if k then (ev tb cf b).1 else ret (.v (.bl false)), bnd (ev tb cf a).2 fun c => if c then (ev tb cf b).2 else ret false) := rfl
@[simp] theorem ev_or (a b : E) : ev tb cf (.or a b) = (bnd (ev tb cf a).1 fun x => bnd (isBl x) fun k => if k then ret (.v (.bl true)) else (ev tb cf b).1, bnd (ev tb cf a).2 fun c => if c then ret true else (ev tb cf b).2) := rfl
@[simp] theorem ev_cmp (op : CmpOp) (a b : E) : ev tb cf (.cmp op a b) = both (bnd (ev tb cf a).1 fun x => bnd (ev tb cf b).1 fun y => twoP (fun c d => vP .bl (cmpD op c d)) x y) := rfl
@[simp] theorem ev_chain (op op' : CmpOp) (a b c : E) : ev tb cf (.chain op op' a b c) = both (bnd (ev tb cf a).1 fun x => bnd (ev tb cf b).1 fun y => bnd (bnd (twoP (fun c d => vP .bl (cmpD op c d)) x y) isBl) fun k =>
      if k then bnd (ev tb cf c).1 fun z => twoP (fun c d => vP .bl (cmpD op' c d)) y z else ret (.v (.bl false))) := rfl
@[simp] theorem ev_ite (t a b : E) : ev tb cf (.ite t a b) = (bnd (ev tb cf t).2 fun c => if c then (ev tb cf a).1 else (ev tb cf b).1, bnd (ev tb cf t).2 fun c => if c then (ev tb cf a).2 else (ev tb cf b).2) := rfl
@[simp] theorem ev_tup (es : Es) : ev tb cf (.tup es) = both (bnd (evL tb cf es) fun rs => bnd (frzL rs) fun ds => lft ((tupV ds).map PR.r)) := rfl
@[simp] theorem ev_lst (es : Es) : ev tb cf (.lst es) = both (bnd (evL tb cf es) fun rs => bnd (frzL rs) fun ds => lft ((lstF ds).map PR.r)) := rfl
@[simp] theorem ev_dct (ks : List L2.Key) (vs : Es) : ev tb cf (.dct ks vs) = both (bnd (evL tb cf vs) fun ys => bnd (frzL ys) fun vd => dctP ks vd) := rfl
@[simp] theorem ev_sset (e : E) : ev tb cf (.sset e) = both (bnd (ev tb cf e).1 fun x => oneP ssetD x) := rfl
@[simp] theorem ev_ix (a b : E) : ev tb cf (.ix a b) = both (bnd (ev tb cf a).1 fun x => bnd (ev tb cf b).1 fun y => twoP (fun c d => vP id (ixD c d)) x y) := rfl
@[simp] theorem ev_slN (a : E) : ev tb cf (.slN a) = both (bnd (ev tb cf a).1 fun x => oneP (slD none none) x) := rfl
@[simp] theorem ev_slL (a l : E) : ev tb cf (.slL a l) = both (bnd (ev tb cf a).1 fun x => bnd (ev tb cf l).1 fun y => bnd (intR y) fun i => oneP (slD (some i) none) x) := rfl
@[simp] theorem ev_slH (a l : E) : ev tb cf (.slH a l) = both (bnd (ev tb cf a).1 fun x => bnd (ev tb cf l).1 fun y => bnd (intR y) fun i => oneP (slD none (some i)) x) := rfl
@[simp] theorem ev_slB (a l h : E) : ev tb cf (.slB a l h) = both (bnd (ev tb cf a).1 fun x => bnd (ev tb cf l).1 fun y => bnd (intR y) fun i => bnd (ev tb cf h).1 fun z => bnd (intR z) fun j => oneP (slD (some i) (some j)) x) := rfl
@[simp] theorem ev_call (f : Nat) (es : Es) : ev tb cf (.call f es) = both (bnd (evL tb cf es) fun rs => callM tb cf f rs) := rfl
@[simp] theorem ev_callv (g : E) (es : Es) : ev tb cf (.callv g es) = both (bnd (ev tb cf g).1 fun x => bnd (fnOf tb x) fun f => bnd (evL tb cf es) fun rs => callM tb cf f rs) := rfl
@[simp] theorem ev_bi (b : Bi) (es : Es) : ev tb cf (.bi b es) = both (bnd (evL tb cf es) fun rs => allP (biD b) rs) := rfl
@[simp] theorem ev_isi (e : E) (t : Ty) : ev tb cf (.isi e t) = both (bnd (ev tb cf e).1 fun x => oneP (fun d => vP .bl (isiD t d)) x) := rfl
@[simp] theorem ev_bm (m : Bm) (o : E) (es : Es) : ev tb cf (.bm m o es) = both (bnd (ev tb cf o).1 fun x => bnd (isLst x) fun _ => bnd (evL tb cf es) fun rs => bmP m x rs) := rfl
@[simp] theorem ev_mm (m : Mm) (i : Nat) (es : Es) : ev tb cf (.mm m i es) = both (bnd (ownL i) fun _ => bnd (evL tb cf es) fun rs => bnd (frzL rs) fun ds => mmP m i ds) := rfl
@[simp] theorem evL_nil : evL tb cf .nil = ret [] := rfl
@[simp] theorem evL_cons (e : E) (es : Es) : evL tb cf (.cons e es) = bnd (ev tb cf e).1 fun x => bnd (evL tb cf es) fun xs => ret (x :: xs) := rfl
@[simp] theorem evI_sq (e : E) : evI tb cf (.sq e) = bnd (ev tb cf e).1 frS := rfl
theorem evI_rng1 (a : E) : evI tb cf (.rng1 a) = bnd (ev tb cf a).1 fun x => bnd (intR x) fun i => if bigI i then ret (rngL 0 i.toNat) else stuck := rfl
theorem evI_rng2 (a b : E) : evI tb cf (.rng2 a b) = bnd (ev tb cf a).1 fun x => bnd (ev tb cf b).1 fun y => bnd (intR x) fun i => bnd (intR y) fun j => if bigI i && bigI j then ret (rngL i (j - i).toNat) else stuck := rfl
@[simp] theorem evI_enum (a : E) : evI tb cf (.enum a) = bnd (ev tb cf a).1 fun x => bnd (frz x) fun d => lft (enumD d) := rfl
@[simp] theorem evI_zip (a b : E) : evI tb cf (.zip a b) = bnd (ev tb cf a).1 fun x => bnd (frz x) fun d => bnd (ev tb cf b).1 fun y => bnd (frz y) fun e => lft (zipD d e) := rfl
@[simp] theorem evS_expr (e : E) : evS tb cf (.expr e) env = runM (ev tb cf e).1 env fun _ e => some (.nx e) := rfl
@[simp] theorem evS_asg (t : T) (e : E) : evS tb cf (.asg t e) env = runM (bnd (ev tb cf e).1 (asgT t)) env fun _ e => some (.nx e) := rfl
@[simp] theorem evS_par (ts : Ts) (es : Es) : evS tb cf (.par ts es) env = runM (bnd (bnd (evL tb cf es) unOwL) (asgRs ts)) env fun _ e => some (.nx e) := rfl
@[simp] theorem evS_setix (i : Nat) (k e : E) : evS tb cf (.setix i k e) env = runM (bnd (ev tb cf e).1 fun x => bnd (frz x) fun d => bnd (ownL i) fun _ => bnd (ev tb cf k).1 fun y => bnd (intR y) fun n => setIx i n d) env fun _ e => some (.nx e) := rfl
@[simp] theorem evS_aug (i : Nat) (op : Operator) (e : E) : evS tb cf (.aug i op e) env = runM (bnd (ev tb cf (.var i)).1 fun x => bnd (ev tb cf e).1 fun y => bnd (twoP (augD op) x y) (putR i)) env fun _ e => some (.nx e) := rfl
@[simp] theorem evS_augix (i : Nat) (op : Operator) (k e : E) : evS tb cf (.augix i op k e) env = runM (bnd (ownL i) fun _ => bnd (ev tb cf k).1 fun y => bnd (getIx i y) fun x => bnd (ev tb cf e).1 fun z => augIx i op y x z) env fun _ e => some (.nx e) := rfl
@[simp] theorem evS_ret (e : E) : evS tb cf (.ret e) env = runM (ev tb cf e).1 env fun r e => (outR e r).map fun p => .rt p e := rfl
@[simp] theorem evS_retN : evS tb cf .retN env = some (.rt (.v .non) env) := rfl
@[simp] theorem evS_cond (t : E) (a b : Ss) : evS tb cf (.cond t a b) env = runM (ev tb cf t).2 env fun c e => if c then evB tb cf a e else evB tb cf b e := rfl
@[simp] theorem evS_pass : evS tb cf .pass env = some (.nx env) := rfl
@[simp] theorem evS_cont : evS tb cf .cont env = some (.ct env) := rfl
@[simp] theorem evS_brk : evS tb cf .brk env = some (.bk env) := rfl
@[simp] theorem evS_raise (c : Nat) : evS tb cf (.raise c) env = some (.ex ⟨c, .non⟩ env) := rfl
@[simp] theorem evB_nil : evB tb cf .nil env = some (.nx env) := rfl
@[simp] theorem evB_cons (s : S) (ss : Ss) : evB tb cf (.cons s ss) env = match evS tb cf s env with
    | some (.nx e) => evB tb cf ss e
    | r => r := rfl

@[simp] theorem evB_clr (own : List Nat) (ss : Ss) : evB tb cf (.clr own ss) env = match clrE env own with
    | some e => evB tb cf ss e
    | none => none := rfl
@[simp] theorem evB_frz (own : List Nat) (ss : Ss) : evB tb cf (.frz own ss) env = evB tb cf ss (frzE env own) := rfl
@[simp] theorem evS_try1 (b : Ss) (c : Nat) (h : Ss) : evS tb cf (.try1 b c h) env = match evB tb cf b env with
    | some (.ex x e) => if x.cls = c then evB tb cf h e else none
    | r => r := rfl
end

section
variable {α β : Type} {env e : Env} {tb : Tab} {cf : CF}
@[simp] theorem both_u (m : M R) : both m = (m, tst m) := rfl
@[simp] theorem tst_u (m : M R) : tst m = bnd m fun x env => match (cont env x).bind truthD with
  | some k => some (.ok k env)
  | none => none := rfl
@[simp] theorem bnd_u (m : M α) (f : α → M β) : bnd m f env = match m env with
  | none => none
  | some (.ex x e) => some (.ex x e)
  | some (.ok a e) => f a e := rfl
@[simp] theorem ret_u (a : α) : ret a env = some (.ok a env) := rfl
@[simp] theorem lft_some (a : α) : lft (some a) env = some (.ok a env) := rfl
@[simp] theorem lft_none : (lft none : M α) env = none := rfl
@[simp] theorem runM_u (m : M α) (k : α → Env → Option SO) : runM m env k = match m env with
  | none => none
  | some (.ex x e) => some (.ex x e)
  | some (.ok a e) => k a e := rfl
@[simp] theorem twoP_u (f : D → D → Option PR) (x y : R) : twoP f x y env = match cont env x, cont env y with
  | some c, some d => (match f c d with
    | some r => some (.ok r.r env)
    | none => none)
  | _, _ => none := rfl
@[simp] theorem oneP_u (f : D → Option PR) (x : R) : oneP f x env = match (cont env x).bind f with
  | some r => some (.ok r.r env)
  | none => none := rfl
@[simp] theorem allP_u (f : List D → Option PR) (rs : List R) : allP f rs env = match conts env rs with
  | some ds => (match f ds with
    | some r => some (.ok r.r env)
    | none => none)
  | none => none := rfl
@[simp] theorem cont_v (d : D) : cont env (.v d) = some d := rfl
@[simp] theorem cont_fr (o : Ob) : cont env (.fr o) = some o.toD := rfl
@[simp] theorem cont_ow (i : Nat) : cont env (.ow i) = match env[i]? with
  | some (.v d) => some d
  | some (.ow _ o) => some o.toD
  | _ => none := rfl
@[simp] theorem conts_nil : conts env [] = some [] := rfl
@[simp] theorem conts_cons (r : R) (rs : List R) : conts env (r :: rs) = match cont env r, conts env rs with
  | some d, some ds => some (d :: ds)
  | _, _ => none := rfl
@[simp] theorem toD_lst (l : List D) : (Ob.lst l).toD = .lst l := rfl
@[simp] theorem toD_dct (l : List (L2.Key × D)) : (Ob.dct l).toD = .dct l := rfl
@[simp] theorem frz_v (d : D) : frz (.v d) env = some (.ok d env) := rfl
@[simp] theorem frz_fr (o : Ob) : frz (.fr o) env = some (.ok o.toD env) := rfl
@[simp] theorem frz_ow (i : Nat) : frz (.ow i) env = match env[i]? with
  | some (.v d) => some (.ok d env)
  | some (.ow false o) => some (.ok o.toD (env.set i (.v o.toD)))
  | _ => none := rfl
@[simp] theorem frzL_nil : frzL [] = ret [] := rfl
@[simp] theorem frzL_cons (r : R) (rs : List R) : frzL (r :: rs) = bnd (frz r) fun d => bnd (frzL rs) fun ds => ret (d :: ds) := rfl
@[simp] theorem frS_u (x : R) : frS x = bnd (frz x) fun d => lft (seqD d) := rfl
@[simp] theorem unOw_v (d : D) : unOw (.v d) = ret (.v d) := rfl
@[simp] theorem unOw_fr (o : Ob) : unOw (.fr o) = ret (.fr o) := rfl
@[simp] theorem unOw_ow (i : Nat) : unOw (.ow i) = bnd (frz (.ow i)) fun d => ret (.v d) := rfl
@[simp] theorem unOwL_nil : unOwL [] = ret [] := rfl
@[simp] theorem unOwL_cons (r : R) (rs : List R) : unOwL (r :: rs) = bnd (unOw r) fun x => bnd (unOwL rs) fun xs => ret (x :: xs) := rfl
@[simp] theorem getIx_u (i : Nat) (y : R) : getIx i y env = match env[i]? with
  | some (.ow _ (.lst l)) => (match (cont env y).bind intD with
    | some n => (match L2.atI l n with
      | some d => some (.ok d env)
      | none => none)
    | none => none)
  | _ => none := rfl
@[simp] theorem augIx_u (i : Nat) (op : Operator) (y : R) (x : D) (z : R) : augIx i op y x z env = match cont env z with
  | some c => (match augD op x c with
    | some (.v d) => (match (cont env y).bind intD with
      | some n => setIx i n d env
      | none => none)
    | _ => none)
  | none => none := rfl
@[simp] theorem outR_v (d : D) : outR env (.v d) = some (.v d) := rfl
@[simp] theorem outR_fr (o : Ob) : outR env (.fr o) = some (.fr o) := rfl
@[simp] theorem outR_ow (i : Nat) : outR env (.ow i) = match env[i]? with
  | some (.v d) => some (.v d)
  | some (.ow false o) => some (.fr o)
  | _ => none := rfl
@[simp] theorem PRr_v (d : D) : (PR.v d).r = .v d := rfl
@[simp] theorem PRr_fr (o : Ob) : (PR.fr o).r = .fr o := rfl
@[simp] theorem vP_u (f : α → D) (o : Option α) : vP f o = o.map fun a => .v (f a) := rfl
@[simp] theorem negD_int (i : Int) : negD (.int i) = some (.int (-i)) := rfl
@[simp] theorem isBl_u (x : R) : isBl x env = match cont env x with
  | some (.bl b) => some (.ok b env)
  | _ => none := rfl
@[simp] theorem turn1_u (as : D → M Unit) (test : M Bool) (elt : M R) (d : D) : turn1 as test elt d = bnd (as d) fun _ => bnd test fun k => if k then bnd elt fun x => bnd (frz x) fun y => ret (some y) else ret none := rfl
@[simp] theorem wipeE_nil : wipeE env [] = env := rfl
@[simp] theorem wipeE_cons (v : Nat) (vs : List Nat) : wipeE env (v :: vs) = (wipeE env vs).set v .un := rfl
@[simp] theorem backE_nil : backE e env [] = env := rfl
@[simp] theorem backE_cons (v : Nat) (vs : List Nat) : backE e env (v :: vs) = (backE e env vs).set v (e.getD v .un) := rfl
@[simp] theorem clrE_nil : clrE env [] = some env := rfl
@[simp] theorem clrE_cons (v : Nat) (vs : List Nat) : clrE env (v :: vs) = match env[v]? with
    | some (.ow true _) => none
    | some _ => clrE (env.set v .un) vs
    | none => none := rfl
@[simp] theorem frzE_nil : frzE env [] = env := rfl
@[simp] theorem frzE_cons (v : Nat) (vs : List Nat) : frzE env (v :: vs) = match env[v]? with
    | some (.ow false o) => frzE (env.set v (.v o.toD)) vs
    | _ => frzE env vs := rfl
@[simp] theorem asgT_nm (i : Nat) (r : R) : asgT (.nm i) r = putR i r := rfl
@[simp] theorem asgT_tp (ts : Ts) (r : R) : asgT (.tp ts) r env = match (cont env r).bind unpD with
    | some l => if l.length = ts.len then asgTs ts l env else none
    | none => none := rfl
@[simp] theorem unp_tup (l : List D) : unpD (.tup l) = some l := rfl
@[simp] theorem unp_lst (l : List D) : unpD (.lst l) = some l := rfl
@[simp] theorem asgTs_nil (l : List D) : asgTs .nil l = ret () := rfl
@[simp] theorem asgTs_cons (t : T) (ts : Ts) (d : D) (ds : List D) : asgTs (.cons t ts) (d :: ds) = bnd (asgT t (.v d)) fun _ => asgTs ts ds := rfl
@[simp] theorem asgRs_nil : asgRs .nil [] = ret () := rfl
@[simp] theorem asgRs_cons (t : T) (ts : Ts) (r : R) (rs : List R) : asgRs (.cons t ts) (r :: rs) = bnd (asgT t r) fun _ => asgRs ts rs := rfl
@[simp] theorem len_tnil : Ts.nil.len = 0 := rfl
@[simp] theorem len_tcons (t : T) (ts : Ts) : (Ts.cons t ts).len = ts.len + 1 := rfl
@[simp] theorem putR_v (i : Nat) (d : D) : putR i (.v d) = store i (.v d) := rfl
@[simp] theorem putR_fr (i : Nat) (o : Ob) : putR i (.fr o) = store i (.ow false o) := rfl
@[simp] theorem putR_ow (i j : Nat) : putR i (.ow j) = bnd (frz (.ow j)) fun d => store i (.v d) := rfl
@[simp] theorem store_u (i : Nat) (s : Sl) : store i s env = match env[i]? with
  | some (.ow true _) => none
  | some _ => some (.ok () (env.set i s))
  | none => none := rfl
@[simp] theorem blsD_nil : blsD [] = some [] := rfl
@[simp] theorem blsD_cons (b : Bool) (l : List D) : blsD (.bl b :: l) = (blsD l).map (b :: ·) := rfl
@[simp] theorem ownL_u (i : Nat) : ownL i env = match env[i]? with
  | some (.ow _ (.lst _)) => some (.ok () env)
  | _ => none := rfl
@[simp] theorem isLst_u (x : R) : isLst x env = match cont env x with
  | some (.lst _) => some (.ok () env)
  | _ => none := rfl
@[simp] theorem intR_u (x : R) : intR x env = match (cont env x).bind intD with
  | some i => some (.ok i env)
  | none => none := rfl
@[simp] theorem intD_int (i : Int) : intD (.int i) = some i := rfl
@[simp] theorem setIx_u (i : Nat) (n : Int) (v : D) : setIx i n v env = match env[i]? with
  | some (.ow b (.lst l)) => (match L2.ixN l.length n with
    | some j => some (.ok () (env.set i (.ow b (.lst (l.set j v)))))
    | none => none)
  | _ => none := rfl
@[simp] theorem augD_add (i j : Int) : augD .Add (.int i) (.int j) = some (.v (.int (i + j))) := rfl
@[simp] theorem augD_sub (i j : Int) : augD .Sub (.int i) (.int j) = some (.v (.int (i - j))) := rfl
@[simp] theorem tupV_u (l : List D) : tupV l = if l.length ≤ 16777216 then some (.v (.tup l)) else none := by unfold tupV; rw [sizeLine_eq]
@[simp] theorem lstF_u (l : List D) : lstF l = if l.length ≤ 16777216 then some (.fr (.lst l)) else none := by unfold lstF; rw [sizeLine_eq]
@[simp] theorem mmP_u (m : Mm) (i : Nat) (ds : List D) : mmP m i ds env = match env[i]? with
  | some (.ow b o) => (match mmD m o ds with
    | some (r, o') => some (.ok r.r (env.set i (.ow b o')))
    | none => none)
  | _ => none := rfl
@[simp] theorem mmD_app (l : List D) (d : D) : mmD .append (.lst l) [d] = if l.length < 16777216 then some (.v .non, .lst (l ++ [d])) else none := by
  show (if l.length < sizeLine then some (PR.v .non, Ob.lst (l ++ [d])) else none) = _
  rw [sizeLine_eq]
@[simp] theorem mmD_pop (l : List D) : mmD .pop (.lst l) [] = match l.getLast? with
    | some d => some (.v d, .lst l.dropLast)
    | none => none := rfl
@[simp] theorem bmP_u (m : Bm) (x : R) (rs : List R) : bmP m x rs env = match cont env x with
  | some c => allP (bmD m c) rs env
  | none => none := rfl
@[simp] theorem fnOf_u (x : R) : fnOf tb x env = match cont env x with
  | some (.fn f) => (match tb.fns f with
    | some _ => some (.ok f env)
    | none => none)
  | _ => none := rfl
end
@[simp] theorem bi_len_lst (l : List D) : biD .len [.lst l] = some (.v (.int l.length)) := rfl
@[simp] theorem bi_len_tup (l : List D) : biD .len [.tup l] = some (.v (.int l.length)) := rfl
@[simp] theorem bi_len_scr (l : List D) : biD .len [.scr l] = some (.v (.int l.length)) := rfl
@[simp] theorem bi_abs (i : Int) : biD .abs [.int i] = some (.v (.int (if i < 0 then -i else i))) := rfl
@[simp] theorem bi_int (i : Int) : biD .int [.int i] = some (.v (.int i)) := rfl
@[simp] theorem bi_intb (b : Bool) : biD .int [.bl b] = some (.v (.int (if b then 1 else 0))) := rfl
@[simp] theorem bi_tup_lst (l : List D) : biD .tuple [.lst l] = some (.v (.tup l)) := rfl
@[simp] theorem bi_tup_tup (l : List D) : biD .tuple [.tup l] = some (.v (.tup l)) := rfl
@[simp] theorem bi_lst_lst (l : List D) : biD .list [.lst l] = some (.fr (.lst l)) := rfl
@[simp] theorem bi_lst_tup (l : List D) : biD .list [.tup l] = some (.fr (.lst l)) := rfl
theorem bi_all (l : List D) : biD .all [.lst l] = (blsD l).bind fun bs => some (.v (.bl (bs.all id))) := rfl
theorem bi_any (l : List D) : biD .any [.lst l] = (blsD l).bind fun bs => some (.v (.bl (bs.any id))) := rfl
@[simp] theorem bi_sorted (l : List D) : biD .sorted [.lst l] = (sortD l).bind fun x => some (.fr (.lst x)) := rfl
@[simp] theorem bi_max2 (i j : Int) : biD .max [.int i, .int j] = some (.v (.int (if j > i then j else i))) := rfl
@[simp] theorem bi_min2 (i j : Int) : biD .min [.int i, .int j] = some (.v (.int (if j < i then j else i))) := rfl
@[simp] theorem isi_int (t : Ty) (i : Int) : isiD t (.int i) = some (t == .int) := rfl
@[simp] theorem isi_bl (t : Ty) (i : Bool) : isiD t (.bl i) = some (t == .bool || t == .int) := rfl
@[simp] theorem isi_str (t : Ty) (i : Str) : isiD t (.str i) = some (t == .str) := rfl
@[simp] theorem isi_tup (t : Ty) (i : List D) : isiD t (.tup i) = some (t == .tuple) := rfl
@[simp] theorem isi_lst (t : Ty) (i : List D) : isiD t (.lst i) = some (t == .list) := rfl
@[simp] theorem isi_non (t : Ty) : isiD t .non = some false := rfl
@[simp] theorem tr_non : truthD .non = some false := rfl
@[simp] theorem tr_bl (b : Bool) : truthD (.bl b) = some b := rfl
@[simp] theorem tr_int (i : Int) : truthD (.int i) = some (i != 0) := rfl
@[simp] theorem tr_tup (l : List D) : truthD (.tup l) = some (!l.isEmpty) := rfl
@[simp] theorem tr_lst (l : List D) : truthD (.lst l) = some (!l.isEmpty) := rfl
@[simp] theorem bn_add (i j : Int) : binD .Add (.int i) (.int j) = some (.v (.int (i + j))) := rfl
@[simp] theorem bn_sub (i j : Int) : binD .Sub (.int i) (.int j) = some (.v (.int (i - j))) := rfl
@[simp] theorem bn_mod (i j : Int) : binD .Mod (.int i) (.int j) = if 0 < j then some (.v (.int (i % j))) else none := id rfl
@[simp] theorem bn_tup (a b : List D) : binD .Add (.tup a) (.tup b) = if a.length + b.length ≤ sizeLine then some (.v (.tup (a ++ b))) else none := rfl
@[simp] theorem bn_lst (a b : List D) : binD .Add (.lst a) (.lst b) = if a.length + b.length ≤ sizeLine then some (.fr (.lst (a ++ b))) else none := rfl
@[simp] theorem seq_tup (l : List D) : seqD (.tup l) = some l := rfl
@[simp] theorem seq_lst (l : List D) : seqD (.lst l) = some l := rfl
@[simp] theorem seq_scr (l : List D) : seqD (.scr l) = some l := rfl
@[simp] theorem cm_eq (a b : D) : cmpD .Eq a b = eqD a b := rfl
@[simp] theorem cm_ne (a b : D) : cmpD .NotEq a b = (eqD a b).map (!·) := rfl
@[simp] theorem cm_lt (i j : Int) : cmpD .Lt (.int i) (.int j) = some (decide (i < j)) := rfl
@[simp] theorem cm_le (i j : Int) : cmpD .LtE (.int i) (.int j) = some (decide (i ≤ j)) := rfl
@[simp] theorem cm_gt (i j : Int) : cmpD .Gt (.int i) (.int j) = some (decide (j < i)) := rfl
@[simp] theorem cm_ge (i j : Int) : cmpD .GtE (.int i) (.int j) = some (decide (j ≤ i)) := rfl
@[simp] theorem cm_in (a b : D) : cmpD .In a b = inD a b := rfl
@[simp] theorem cm_nin (a b : D) : cmpD .NotIn a b = (inD a b).map (!·) := rfl

def rng1M (i : Int) : M (List D) := if bigI i then ret (rngL 0 i.toNat) else stuck
theorem rng1M_u (i : Int) : rng1M i = if bigI i then ret (rngL 0 i.toNat) else stuck := rfl
def rng2M (i j : Int) : M (List D) := if bigI i && bigI j then ret (rngL i (j - i).toNat) else stuck
theorem rng2M_u (i j : Int) : rng2M i j = if bigI i && bigI j then ret (rngL i (j - i).toNat) else stuck := rfl
def mulM (i j : Int) : Option PR := if smallI i || smallI j then some (.v (.int (i * j))) else none
theorem mulM_u (i j : Int) : mulM i j = if smallI i || smallI j then some (.v (.int (i * j))) else none := rfl
def divM (i j : Int) : Option PR := if divI j then some (.v (.int (i / j))) else none
theorem divM_ok {i j : Int} (h : 0 < j) (h2 : j < 1073741824) : divM i j = some (.v (.int (i / j))) := by unfold divM; rw [if_pos (divI_iff.mpr ⟨h, h2⟩)]
theorem smallI_ok {i : Int} (h : -1000000000000 ≤ i) (h2 : i ≤ 1000000000000) : smallI i = true := smallI_iff.mpr (by
  have e : (2 : Int) ^ 64 = 18446744073709551616 := by decide
  rw [e]
  omega)
theorem mulM_l {i j : Int} (h : -1000000000000 ≤ i) (h2 : i ≤ 1000000000000) : mulM i j = some (.v (.int (i * j))) := by
  rw [mulM_u, smallI_ok h h2]; rfl
theorem mulM_r {i j : Int} (h : -1000000000000 ≤ j) (h2 : j ≤ 1000000000000) : mulM i j = some (.v (.int (i * j))) := by
  rw [mulM_u, smallI_ok h h2, Bool.or_true]; rfl
@[simp] theorem evI_rng1_v {tb : Tab} {cf : CF} (a : E) : evI tb cf (.rng1 a) = bnd (ev tb cf a).1 fun x => bnd (intR x) rng1M := rfl
@[simp] theorem evI_rng2_v {tb : Tab} {cf : CF} (a b : E) : evI tb cf (.rng2 a b) = bnd (ev tb cf a).1 fun x => bnd (ev tb cf b).1 fun y => bnd (intR x) fun i => bnd (intR y) (rng2M i) := rfl
@[simp] theorem bn_mul_v (i j : Int) : binD .Mult (.int i) (.int j) = mulM i j := rfl
@[simp] theorem bn_div_v (i j : Int) : binD .FloorDiv (.int i) (.int j) = divM i j := rfl
theorem bigI_n {n : Nat} (h : n ≤ 1000000) : bigI (n : Int) = true := by
  unfold bigI
  rw [Bool.and_eq_true, geS_iff, leS_iff]
  omega
theorem rngL_map (n : Nat) : rngL 0 n = (List.range n).map fun (i : Nat) => D.int i := by
  unfold rngL
  simp
theorem rng1M_n {n : Nat} (h : n ≤ 1000000) : rng1M (n : Int) = ret ((List.range n).map fun (i : Nat) => D.int i) := by
  rw [rng1M_u, if_pos (bigI_n h), Int.toNat_natCast, rngL_map]
theorem rng1M_i {i : Int} {n : Nat} (e : i = (n : Int)) (h : n ≤ 1000000) : rng1M i = ret ((List.range n).map fun (i : Nat) => D.int i) := by
  rw [e, rng1M_n h]
theorem rng2M_n {n m : Nat} (h : n ≤ 1000000) (h2 : m ≤ 1000000) : rng2M (n : Int) (m : Int) = ret ((List.range (m - n)).map fun (i : Nat) => D.int ((n + i : Nat) : Int)) := by
  rw [rng2M_u, bigI_n h, bigI_n h2, if_pos (show (true && true) = true from rfl)]
  unfold rngL
  rw [show ((m : Int) - n).toNat = m - n by omega]
  simp
/-! ### comprehensions -/
/-- one turn, the block's names wiped behind it -/
def turnC (own : List Nat) (t : D → M (Option D)) (d : D) (env : Env) : Option (O (Option D)) := match t d env with
  | some (.ok x e) => some (.ok x (wipeE e own))
  | _ => none
@[simp] theorem turnC_u (own : List Nat) (t : D → M (Option D)) (d : D) (env : Env) : turnC own t d env = match t d env with
  | some (.ok x e) => some (.ok x (wipeE e own))
  | _ => none := rfl
theorem lcL {own : List Nat} {t : D → M (Option D)} {g : D → Option D} {env : Env} : ∀ {ds acc : List D}, (∀ d ∈ ds, turnC own t d env = some (.ok (g d) env)) → acc.length + ds.length ≤ 16777216 → lcLoop own t ds acc env = some (.ok (acc ++ ds.filterMap g) env)
  | [], acc, _, _ => by simp [lcLoop]
  | d :: ds, acc, h, hl => by
    have h1 := h d List.mem_cons_self
    rw [List.length_cons] at hl
    unfold turnC at h1
    show (match t d env with
      | some (.ok (some x) e) => if acc.length < sizeLine then lcLoop own t ds (acc ++ [x]) (wipeE e own) else none
      | some (.ok none e) => lcLoop own t ds acc (wipeE e own)
      | _ => none) = _
    cases q : t d env with
    | none => rw [q] at h1; cases h1
    | some o =>
      rw [q] at h1
      cases o with
      | ex x e => cases h1
      | ok y e =>
        have h2 : some (O.ok y (wipeE e own)) = some (.ok (g d) env) := h1
        have e1 : y = g d := by cases h2; rfl
        have e2 : wipeE e own = env := by cases h2; rfl
        rw [List.filterMap_cons, ← e1]
        cases y with
        | none =>
          show lcLoop own t ds acc (wipeE e own) = _
          rw [e2, lcL (fun d hd => h d (List.mem_cons_of_mem _ hd)) (by omega)]
        | some x =>
          show (if acc.length < sizeLine then lcLoop own t ds (acc ++ [x]) (wipeE e own) else none) = _
          rw [if_pos (by rw [sizeLine_eq]; omega), e2, lcL (fun d hd => h d (List.mem_cons_of_mem _ hd)) (by rw [List.length_append, List.length_singleton]; omega), List.append_assoc]
          rfl
theorem lc_app {own : List Nat} {t : D → M (Option D)} : ∀ (a b acc : List D) (e : Env), lcLoop own t (a ++ b) acc e = bnd (lcLoop own t a acc) (fun l => lcLoop own t b l) e
  | [], b, acc, e => rfl
  | y :: a, b, acc, e => by
    have e1 : ∀ ds : List D, lcLoop own t (y :: ds) acc e = (match t y e with
      | some (.ok (some x) e) => if acc.length < sizeLine then lcLoop own t ds (acc ++ [x]) (wipeE e own) else none
      | some (.ok none e) => lcLoop own t ds acc (wipeE e own)
      | _ => none) := fun _ => rfl
    rw [List.cons_append, bnd_u, e1, e1]
    cases t y e with
    | none => rfl
    | some o =>
      cases o with
      | ex x e => rfl
      | ok z e =>
        cases z with
        | none => exact lc_app a b acc _
        | some x =>
          by_cases hs : acc.length < sizeLine
          · simp only [hs, if_true]; exact lc_app a b _ _
          · simp only [hs, if_false]
section
variable {tb : Tab} {cf : CF} {α β : Type}
theorem lc_of {elt c : E} {t : T} {it : I} {own : List Nat} {env e1 : Env} (xs : List α) (d : α → D) (g : α → Option D) (hi : evI tb cf it env = some (.ok (xs.map d) e1)) (hl : xs.length ≤ 16777216)
    (h : ∀ x ∈ xs, turnC own (turn1 (fun d => asgT t (.v d)) (ev tb cf c).2 (ev tb cf elt).1) (d x) (wipeE e1 own) = some (.ok (g x) (wipeE e1 own))) :
    (ev tb cf (.lc elt t it c own)).1 env = some (.ok (.fr (.lst (xs.filterMap g))) (backE e1 (wipeE e1 own) own)) := by
  show lcM own (evI tb cf it) (turn1 (fun d => asgT t (.v d)) (ev tb cf c).2 (ev tb cf elt).1) env = _
  unfold lcM
  rw [bnd_u, hi]
  show (match lcLoop own (turn1 (fun d => asgT t (.v d)) (ev tb cf c).2 (ev tb cf elt).1) (xs.map d) [] (wipeE e1 own) with
    | some (.ok l e) => some (O.ok (R.fr (.lst l)) (backE e1 e own))
    | _ => none) = _
  have key : ∀ (xs : List α) (acc : List D), (∀ x ∈ xs, turnC own (turn1 (fun d => asgT t (.v d)) (ev tb cf c).2 (ev tb cf elt).1) (d x) (wipeE e1 own) = some (.ok (g x) (wipeE e1 own))) → acc.length + xs.length ≤ 16777216 →
      lcLoop own (turn1 (fun d => asgT t (.v d)) (ev tb cf c).2 (ev tb cf elt).1) (xs.map d) acc (wipeE e1 own) = some (.ok (acc ++ xs.filterMap g) (wipeE e1 own)) := by
    intro xs
    induction xs with
    | nil => intro acc _ _; simp [lcLoop]
    | cons x xs ih =>
      intro acc h hl
      rw [List.length_cons] at hl
      have h1 := lcL (own := own) (t := turn1 (fun d => asgT t (.v d)) (ev tb cf c).2 (ev tb cf elt).1) (g := fun _ => g x) (env := wipeE e1 own) (ds := [d x]) (acc := acc) (fun y hy => by
        rw [List.mem_singleton.mp hy]; exact h x List.mem_cons_self) (by simp; omega)
      have : (x :: xs).map d = [d x] ++ xs.map d := rfl
      rw [this, lc_app, bnd_u, h1]
      show lcLoop own _ (xs.map d) (acc ++ [d x].filterMap fun _ => g x) (wipeE e1 own) = _
      have hlen : (acc ++ [d x].filterMap fun _ => g x).length ≤ acc.length + 1 := by
        rw [List.length_append]
        have := List.length_filterMap_le (fun _ : D => g x) [d x]
        simp at this ⊢
        omega
      rw [ih _ (fun y hy => h y (List.mem_cons_of_mem _ hy)) (by omega)]
      rw [List.filterMap_cons, List.append_assoc]
      congr 2
      cases q : g x <;> simp [q]
  have := key xs [] h (by simpa using hl)
  rw [this]
  rfl
theorem lc_mp {elt c : E} {t : T} {it : I} {own : List Nat} {env e1 : Env} (xs : List α) (d g : α → D) (hi : evI tb cf it env = some (.ok (xs.map d) e1)) (hl : xs.length ≤ 16777216)
    (h : ∀ x ∈ xs, turnC own (turn1 (fun d => asgT t (.v d)) (ev tb cf c).2 (ev tb cf elt).1) (d x) (wipeE e1 own) = some (.ok (some (g x)) (wipeE e1 own))) :
    (ev tb cf (.lc elt t it c own)).1 env = some (.ok (.fr (.lst (xs.map g))) (backE e1 (wipeE e1 own) own)) := by
  rw [lc_of xs d (fun x => some (g x)) hi hl h, List.filterMap_eq_map']
end

theorem lcLT {own : List Nat} {t : D → M (Option D)} {env : Env} {β : Type} (d : β → D) (g : β → Option D) : ∀ (ys : List β) (acc : List D), (∀ y ∈ ys, turnC own t (d y) env = some (.ok (g y) env)) → acc.length + ys.length ≤ 16777216 → lcLoop own t (ys.map d) acc env = some (.ok (acc ++ ys.filterMap g) env)
  | [], acc, _, _ => by simp [lcLoop]
  | y :: ys, acc, h, hl => by
    rw [List.length_cons] at hl
    have h1 := lcL (own := own) (t := t) (g := fun _ => g y) (env := env) (ds := [d y]) (acc := acc) (fun z hz => by
      rw [List.mem_singleton.mp hz]; exact h y List.mem_cons_self) (by simp; omega)
    have : (y :: ys).map d = [d y] ++ ys.map d := rfl
    rw [this, lc_app, bnd_u, h1]
    show lcLoop own _ (ys.map d) (acc ++ [d y].filterMap fun _ => g y) env = _
    have hlen : (acc ++ [d y].filterMap fun _ => g y).length ≤ acc.length + 1 := by
      rw [List.length_append]
      have := List.length_filterMap_le (fun _ : D => g y) [d y]
      simp at this ⊢
      omega
    rw [lcLT d g ys _ (fun z hz => h z (List.mem_cons_of_mem _ hz)) (by omega)]
    rw [List.filterMap_cons, List.append_assoc]
    congr 2
    cases q : g y <;> simp [q]
section
variable {tb : Tab} {cf : CF} {α β : Type}
/-- two clauses -/
theorem lc2_of {elt c c1 : E} {t t1 : T} {it it1 : I} {own own1 : List Nat} {env e1 : Env} (xs : List α) (d : α → D) (ys : α → List β) (d1 : β → D) (g : α → β → Option D) (e2 : α → Env) (hi : evI tb cf it env = some (.ok (xs.map d) e1))
    (hl : (xs.flatMap ys).length ≤ 16777216)
    (ha : ∀ x ∈ xs, bnd (asgT t (.v (d x))) (fun _ => (ev tb cf c).2) (wipeE e1 own) = some (.ok true (e2 x)))
    (hy : ∀ x ∈ xs, evI tb cf it1 (e2 x) = some (.ok ((ys x).map d1) (e2 x)))
    (hw : ∀ x ∈ xs, wipeE (wipeE (e2 x) own1) own = wipeE e1 own)
    (h : ∀ x ∈ xs, ∀ y ∈ ys x, turnC own1 (turn1 (fun d => asgT t1 (.v d)) (ev tb cf c1).2 (ev tb cf elt).1) (d1 y) (wipeE (e2 x) own1) = some (.ok (g x y) (wipeE (e2 x) own1))) :
    (ev tb cf (.lc2 elt t it c t1 it1 c1 own own1)).1 env = some (.ok (.fr (.lst (xs.flatMap fun x => (ys x).filterMap (g x)))) (backE e1 (wipeE e1 own) own)) := by
  show lc2M own (evI tb cf it) (turn2 own1 (fun d => asgT t (.v d)) (ev tb cf c).2 (evI tb cf it1) (turn1 (fun d => asgT t1 (.v d)) (ev tb cf c1).2 (ev tb cf elt).1)) env = _
  unfold lc2M
  rw [bnd_u, hi]
  have key : ∀ (xs' : List α) (acc : List D), (∀ x ∈ xs', x ∈ xs) → acc.length + (xs'.flatMap ys).length ≤ 16777216 →
      lc2Loop own (turn2 own1 (fun d => asgT t (.v d)) (ev tb cf c).2 (evI tb cf it1) (turn1 (fun d => asgT t1 (.v d)) (ev tb cf c1).2 (ev tb cf elt).1)) (xs'.map d) acc (wipeE e1 own) = some (.ok (acc ++ xs'.flatMap fun x => (ys x).filterMap (g x)) (wipeE e1 own)) := by
    intro xs'
    induction xs' with
    | nil => intro acc _ _; simp [lc2Loop]
    | cons x xs' ih =>
      intro acc hx hl
      have mx := hx x List.mem_cons_self
      rw [List.flatMap_cons, List.length_append] at hl
      have st : turn2 own1 (fun d => asgT t (.v d)) (ev tb cf c).2 (evI tb cf it1) (turn1 (fun d => asgT t1 (.v d)) (ev tb cf c1).2 (ev tb cf elt).1) (d x) acc (wipeE e1 own) = some (.ok (acc ++ (ys x).filterMap (g x)) (wipeE (e2 x) own1)) := by
        have ha1 := ha x mx
        rw [bnd_u] at ha1
        unfold turn2
        rw [bnd_u]
        dsimp only
        cases q : asgT t (.v (d x)) (wipeE e1 own) with
        | none => rw [q] at ha1; cases ha1
        | some o =>
          rw [q] at ha1
          cases o with
          | ex z e => cases ha1
          | ok u e =>
            have ha1 : (ev tb cf c).2 e = some (.ok true (e2 x)) := ha1
            simp only [bnd_u, ha1, if_true, hy x mx]
            exact lcLT d1 (g x) (ys x) acc (h x mx) (by omega)
      show (match turn2 own1 (fun d => asgT t (.v d)) (ev tb cf c).2 (evI tb cf it1) (turn1 (fun d => asgT t1 (.v d)) (ev tb cf c1).2 (ev tb cf elt).1) (d x) acc (wipeE e1 own) with
        | some (.ok acc' e) => lc2Loop own _ (xs'.map d) acc' (wipeE e own)
        | _ => none) = _
      rw [st]
      show lc2Loop own _ (xs'.map d) (acc ++ (ys x).filterMap (g x)) (wipeE (wipeE (e2 x) own1) own) = _
      have := List.length_filterMap_le (g x) (ys x)
      rw [hw x mx, ih _ (fun y hy => hx y (List.mem_cons_of_mem _ hy)) (by rw [List.length_append]; omega), List.flatMap_cons, List.append_assoc]
  have := key xs [] (fun _ h => h) (by simpa using hl)
  show (match lc2Loop own _ (xs.map d) [] (wipeE e1 own) with
    | some (.ok l e) => some (O.ok (R.fr (.lst l)) (backE e1 e own))
    | _ => none) = _
  rw [this]
  rfl
theorem lc2_mp {elt c c1 : E} {t t1 : T} {it it1 : I} {own own1 : List Nat} {env e1 : Env} (xs : List α) (d : α → D) (ys : α → List β) (d1 : β → D) (g : α → β → D) (e2 : α → Env) (hi : evI tb cf it env = some (.ok (xs.map d) e1))
    (hl : (xs.flatMap ys).length ≤ 16777216)
    (ha : ∀ x ∈ xs, bnd (asgT t (.v (d x))) (fun _ => (ev tb cf c).2) (wipeE e1 own) = some (.ok true (e2 x)))
    (hy : ∀ x ∈ xs, evI tb cf it1 (e2 x) = some (.ok ((ys x).map d1) (e2 x)))
    (hw : ∀ x ∈ xs, wipeE (wipeE (e2 x) own1) own = wipeE e1 own)
    (h : ∀ x ∈ xs, ∀ y ∈ ys x, turnC own1 (turn1 (fun d => asgT t1 (.v d)) (ev tb cf c1).2 (ev tb cf elt).1) (d1 y) (wipeE (e2 x) own1) = some (.ok (some (g x y)) (wipeE (e2 x) own1))) :
    (ev tb cf (.lc2 elt t it c t1 it1 c1 own own1)).1 env = some (.ok (.fr (.lst (xs.flatMap fun x => (ys x).map (g x)))) (backE e1 (wipeE e1 own) own)) := by
  rw [lc2_of xs d ys d1 (fun x y => some (g x y)) e2 hi hl ha hy hw h]
  simp only [List.filterMap_eq_map']
end
/-! ### all, any -/
theorem blsD_map {α : Type} (p : α → Bool) : ∀ l : List α, blsD (l.map fun x => D.bl (p x)) = some (l.map p)
  | [] => rfl
  | x :: r => by
    show (blsD (r.map fun x => D.bl (p x))).map (p x :: ·) = _
    rw [blsD_map]; rfl
@[simp] theorem all_map {α : Type} (p : α → Bool) (l : List α) : biD .all [.lst (l.map fun x => D.bl (p x))] = some (.v (.bl (l.all p))) := by
  rw [bi_all, blsD_map]
  simp
@[simp] theorem any_map {α : Type} (p : α → Bool) (l : List α) : biD .any [.lst (l.map fun x => D.bl (p x))] = some (.v (.bl (l.any p))) := by
  rw [bi_any, blsD_map]
  simp
@[simp] theorem all_nil : biD .all [.lst []] = some (.v (.bl true)) := rfl
@[simp] theorem any_nil : biD .any [.lst []] = some (.v (.bl false)) := rfl
@[simp] theorem all_cons (b : Bool) (l : List D) : biD .all [.lst (.bl b :: l)] = (blsD l).map fun bs => .v (.bl (b && bs.all id)) := by
  rw [bi_all, blsD_cons]
  cases blsD l <;> simp
@[simp] theorem any_cons (b : Bool) (l : List D) : biD .any [.lst (.bl b :: l)] = (blsD l).map fun bs => .v (.bl (b || bs.any id)) := by
  rw [bi_any, blsD_cons]
  cases blsD l <;> simp
theorem len_flat {α β : Type} (f : α → List β) (n : Nat) : ∀ l : List α, (∀ x ∈ l, (f x).length = n) → (l.flatMap f).length = l.length * n
  | [], _ => by simp
  | x :: l, h => by
    rw [List.flatMap_cons, List.length_append, h x List.mem_cons_self, len_flat f n l fun y hy => h y (List.mem_cons_of_mem _ hy), List.length_cons, Nat.add_mul]
    omega
theorem blsD_app : ∀ {a b : List D} {x y : List Bool}, blsD a = some x → blsD b = some y → blsD (a ++ b) = some (x ++ y)
  | [], b, x, y, h, h2 => by cases h; exact h2
  | d :: a, b, x, y, h, h2 => by
    cases d with
    | bl k =>
      have h : (blsD a).map (k :: ·) = some x := h
      cases q : blsD a with
      | none => rw [q] at h; cases h
      | some z =>
        rw [q] at h
        cases h
        show (blsD (a ++ b)).map (k :: ·) = _
        rw [blsD_app q h2]; rfl
    | _ => cases h
theorem blsD_flat {α β : Type} (ys : α → List β) (p : α → β → Bool) : ∀ l : List α, blsD (l.flatMap fun x => (ys x).map fun y => D.bl (p x y)) = some (l.flatMap fun x => (ys x).map (p x))
  | [] => rfl
  | x :: l => by
    rw [List.flatMap_cons, List.flatMap_cons]
    exact blsD_app (blsD_map (p x) (ys x)) (blsD_flat ys p l)
@[simp] theorem all_flat {α β : Type} (ys : α → List β) (p : α → β → Bool) (l : List α) : biD .all [.lst (l.flatMap fun x => (ys x).map fun y => D.bl (p x y))] = some (.v (.bl (l.all fun x => (ys x).all (p x)))) := by
  rw [bi_all, blsD_flat]
  simp [List.all_flatMap]
/-! ### ends -/
/-- a block or a turn that gives back r -/
def OutRt (o : Option SO) (r : PR) : Prop := match o with
  | some (.rt r' _) => r' = r
  | _ => False
@[simp] theorem outRt_rt (r r' : PR) (e : Env) : OutRt (some (.rt r' e)) r = (r' = r) := rfl
theorem OutRt.ex {o : Option SO} {r : PR} (h : OutRt o r) : ∃ e, o = some (.rt r e) := by
  cases o with
  | none => exact h.elim
  | some o =>
    cases o with
    | rt r' e => have h : r' = r := h; subst h; exact ⟨e, rfl⟩
    | _ => exact h.elim
/-! ### for -/
/-- one turn -/
def turnF (as : D → M Unit) (body : Env → Option SO) (d : D) (e : Env) : Option SO := match as d e with
  | none => none
  | some (.ex x e) => some (.ex x e)
  | some (.ok _ e) => (match body e with
    | some (.ct e) => some (.nx e)
    | r => r)
@[simp] theorem turnF_u (as : D → M Unit) (body : Env → Option SO) (d : D) (e : Env) : turnF as body d e = match as d e with
  | none => none
  | some (.ex x e) => some (.ex x e)
  | some (.ok _ e) => (match body e with
    | some (.ct e) => some (.nx e)
    | r => r) := rfl
theorem forL_nil {as : D → M Unit} {body : Env → Option SO} {e : Env} : forL as body [] e = some (.nx e) := rfl
theorem forL_c {as : D → M Unit} {body : Env → Option SO} {d : D} {ds : List D} {e : Env} : forL as body (d :: ds) e = match turnF as body d e with
    | some (.nx e) => forL as body ds e
    | some (.bk e) => some (.nx e)
    | r => r := by
  show runM (as d) e (fun _ e => (match body e with
      | some (.nx e) => forL as body ds e
      | some (.ct e) => forL as body ds e
      | some (.bk e) => some (.nx e)
      | r => r)) = _
  unfold runM turnF
  cases as d e with
  | none => rfl
  | some o =>
    cases o with
    | ex x e => rfl
    | ok u e =>
      simp only
      cases body e with
      | none => rfl
      | some r => cases r <;> rfl
section
variable {α σ : Type} {as : D → M Unit} {body : Env → Option SO}
theorem for_fold (d : α → D) (E : σ → Env) (step : σ → α → σ) (P : Nat → σ → Prop) (xs : List α) (z : σ) (h0 : P 0 z) (h : ∀ i z x, x ∈ xs → i < xs.length → P i z → P (i+1) (step z x) ∧ turnF as body (d x) (E z) = some (.nx (E (step z x)))) :
    forL as body (xs.map d) (E z) = some (.nx (E (xs.foldl step z))) ∧ P xs.length (xs.foldl step z) := by
  have key : ∀ (ys : List α) (n : Nat) (z : σ), n + ys.length = xs.length → (∀ y ∈ ys, y ∈ xs) → P n z → forL as body (ys.map d) (E z) = some (.nx (E (ys.foldl step z))) ∧ P xs.length (ys.foldl step z) := by
    intro ys
    induction ys with
    | nil =>
      intro n z hn _ hp
      rw [← hn]
      exact ⟨rfl, hp⟩
    | cons x ys ih =>
      intro n z hn hm hp
      rw [List.length_cons] at hn
      obtain ⟨h1, h2⟩ := h n z x (hm x List.mem_cons_self) (by omega) hp
      obtain ⟨r1, r2⟩ := ih (n+1) (step z x) (by omega) (fun y hy => hm y (List.mem_cons_of_mem _ hy)) h1
      refine ⟨?_, r2⟩
      rw [List.map_cons, forL_c, h2]
      exact r1
  exact key xs 0 z (by omega) (fun _ h => h) h0
/-- .. with what has been taken -/
theorem for_pre (d : α → D) (E : σ → Env) (P : List α → σ → Prop) (xs : List α) (z : σ) (h0 : P [] z) (h : ∀ pre x post z, xs = pre ++ x :: post → P pre z → ∃ z', turnF as body (d x) (E z) = some (.nx (E z')) ∧ P (pre ++ [x]) z') :
    ∃ z', forL as body (xs.map d) (E z) = some (.nx (E z')) ∧ P xs z' := by
  have key : ∀ (post pre : List α) (z : σ), xs = pre ++ post → P pre z → ∃ z', forL as body (post.map d) (E z) = some (.nx (E z')) ∧ P xs z' := by
    intro post
    induction post with
    | nil =>
      intro pre z e hp
      rw [List.append_nil] at e
      subst e
      exact ⟨z, rfl, hp⟩
    | cons x post ih =>
      intro pre z e hp
      obtain ⟨z1, h1, h2⟩ := h pre x post z e hp
      obtain ⟨z', h3, h4⟩ := ih (pre ++ [x]) z1 (by rw [e]; simp) h2
      refine ⟨z', ?_, h4⟩
      rw [List.map_cons, forL_c, h1]
      exact h3
  exact key xs [] z rfl h0
/-- .. that is left at an item -/
def isEnd : SO → Prop
  | .rt _ _ => True
  | .ex _ _ => True
  | _ => False
theorem for_stop (d : α → D) (E : σ → Env) (step : σ → α → σ) (P : Nat → σ → Prop) {x : α} {post : List α} {r : SO} (pre : List α) (n : Nat) (z : σ) (h0 : P n z) (h : ∀ n z x, x ∈ pre → P n z → P (n+1) (step z x) ∧ turnF as body (d x) (E z) = some (.nx (E (step z x))))
    (hx : turnF as body (d x) (E (pre.foldl step z)) = some r) (hr : isEnd r) :
    forL as body ((pre ++ x :: post).map d) (E z) = some r := by
  induction pre generalizing n z with
  | nil =>
    rw [List.nil_append, List.map_cons, forL_c]
    have hx : turnF as body (d x) (E z) = some r := hx
    rw [hx]
    cases r <;> first | rfl | exact hr.elim
  | cons y pre ih =>
    obtain ⟨h1, h2⟩ := h n z y List.mem_cons_self h0
    rw [List.cons_append, List.map_cons, forL_c, h2]
    exact ih (n+1) (step z y) h1 (fun n z x hx hp => h n z x (List.mem_cons_of_mem _ hx) hp) hx
end
theorem loop_u {tb : Tab} {cf : CF} {t : T} {it : I} {b : Ss} {env e1 : Env} {ds : List D} (h1 : evI tb cf it env = some (.ok ds e1)) : evS tb cf (.loop t it b) env = forL (fun d => asgT t (.v d)) (evB tb cf b) ds e1 := by
  show runM (evI tb cf it) env (fun ds e => forL (fun d => asgT t (.v d)) (evB tb cf b) ds e) = _
  unfold runM
  rw [h1]
theorem loop_fold {tb : Tab} {cf : CF} {α σ : Type} {t : T} {it : I} {b : Ss} {env : Env} (xs : List α) (d : α → D) (E : σ → Env) (step : σ → α → σ) (P : Nat → σ → Prop) (z : σ) (hi : evI tb cf it env = some (.ok (xs.map d) (E z))) (h0 : P 0 z)
    (h : ∀ i z x, x ∈ xs → i < xs.length → P i z → P (i+1) (step z x) ∧ turnF (fun d => asgT t (.v d)) (evB tb cf b) (d x) (E z) = some (.nx (E (step z x)))) :
    evS tb cf (.loop t it b) env = some (.nx (E (xs.foldl step z))) := by
  rw [loop_u hi]
  exact (for_fold d E step P xs z h0 h).1
/-- a loop that looks for what does not hold -/
theorem loop_all {tb : Tab} {cf : CF} {α : Type} {t : T} {it : I} {b : Ss} {env : Env} (xs : List α) (d : α → D) (E : Env) (p : α → Bool) (r : PR) (hi : evI tb cf it env = some (.ok (xs.map d) E))
    (h : ∀ x ∈ xs, p x = true → turnF (fun d => asgT t (.v d)) (evB tb cf b) (d x) E = some (.nx E)) (h2 : ∀ x ∈ xs, p x = false → OutRt (turnF (fun d => asgT t (.v d)) (evB tb cf b) (d x) E) r) :
    if xs.all p = true then evS tb cf (.loop t it b) env = some (.nx E) else ∃ e, evS tb cf (.loop t it b) env = some (.rt r e) := by
  rw [loop_u hi]
  clear hi
  induction xs with
  | nil => simp [forL_nil]
  | cons x xs ih =>
    rw [List.map_cons, forL_c]
    cases q : p x with
    | true =>
      rw [h x List.mem_cons_self q]
      simp only [List.all_cons, q, Bool.true_and]
      exact ih (fun y hy => h y (List.mem_cons_of_mem _ hy)) (fun y hy => h2 y (List.mem_cons_of_mem _ hy))
    | false =>
      obtain ⟨e, he⟩ := (h2 x List.mem_cons_self q).ex
      rw [he]
      simp only [List.all_cons, q, Bool.false_and]
      exact ⟨e, rfl⟩
/-- a loop that looks for the first thing of a kind -/
theorem loop_find {tb : Tab} {cf : CF} {α : Type} {t : T} {it : I} {b : Ss} {env : Env} (xs : List α) (d : α → D) (E : Env) (p : α → Bool) (r : α → PR) (hi : evI tb cf it env = some (.ok (xs.map d) E))
    (h : ∀ x ∈ xs, p x = false → turnF (fun d => asgT t (.v d)) (evB tb cf b) (d x) E = some (.nx E)) (h2 : ∀ x ∈ xs, p x = true → OutRt (turnF (fun d => asgT t (.v d)) (evB tb cf b) (d x) E) (r x)) :
    (∀ x, xs.find? p = some x → ∃ e, evS tb cf (.loop t it b) env = some (.rt (r x) e)) ∧ (xs.find? p = none → evS tb cf (.loop t it b) env = some (.nx E)) := by
  rw [loop_u hi]
  clear hi
  induction xs with
  | nil => simp [forL_nil]
  | cons x xs ih =>
    rw [List.map_cons, forL_c, List.find?_cons]
    cases q : p x with
    | false =>
      rw [h x List.mem_cons_self q]
      exact ih (fun y hy => h y (List.mem_cons_of_mem _ hy)) (fun y hy => h2 y (List.mem_cons_of_mem _ hy))
    | true =>
      obtain ⟨e, he⟩ := (h2 x List.mem_cons_self q).ex
      rw [he]
      refine ⟨fun y hy => ?_, fun hn => by cases hn⟩
      cases hy
      exact ⟨e, rfl⟩
/-! ### while -/
theorem while_by {σ : Type} {t : M Bool} {body : Env → Option SO} (E : σ → Env) (P : σ → Prop) (m : σ → Nat) (Q : Option SO → Prop)
    (h : ∀ z, P z → (∃ e, t (E z) = some (.ok false e) ∧ Q (some (.nx e))) ∨ ∃ e, t (E z) = some (.ok true e) ∧
      ((∃ z', (body e = some (.nx (E z')) ∨ body e = some (.ct (E z'))) ∧ P z' ∧ m z' < m z) ∨ (∃ r e', body e = some (.rt r e') ∧ Q (some (.rt r e'))) ∨ (∃ x e', body e = some (.ex x e') ∧ Q (some (.ex x e'))) ∨ ∃ e', body e = some (.bk e') ∧ Q (some (.nx e')))) :
    ∀ (n : Nat) (z : σ), P z → m z < n → Q (whileN t body n (E z)) := by
  intro n
  induction n with
  | zero => intro z _ hm; omega
  | succ n ih =>
    intro z hp hm
    have ex : whileN t body (n + 1) (E z) = runM t (E z) fun b e => if b then (match body e with
      | some (.nx e) => whileN t body n e
      | some (.ct e) => whileN t body n e
      | some (.bk e) => some (.nx e)
      | r => r) else some (.nx e) := rfl
    rw [ex]
    unfold runM
    rcases h z hp with ⟨e, h1, h2⟩ | ⟨e, h1, h2⟩
    · rw [h1]; exact h2
    · rw [h1]
      simp only [if_true]
      rcases h2 with ⟨z', h3, h4, h5⟩ | ⟨r, e', h3, h4⟩ | ⟨x, e', h3, h4⟩ | ⟨e', h3, h4⟩
      · rcases h3 with h3 | h3
        · rw [h3]; exact ih z' h4 (by omega)
        · rw [h3]; exact ih z' h4 (by omega)
      · rw [h3]; exact h4
      · rw [h3]; exact h4
      · rw [h3]; exact h4
theorem whl_by {tb : Tab} {cf : CF} {σ : Type} {t : E} {b : Ss} (E : σ → Env) (P : σ → Prop) (m : σ → Nat) (Q : Option SO → Prop) (z : σ) (hp : P z) (hm : m z < 100000)
    (h : ∀ z, P z → (∃ e, (ev tb cf t).2 (E z) = some (.ok false e) ∧ Q (some (.nx e))) ∨ ∃ e, (ev tb cf t).2 (E z) = some (.ok true e) ∧
      ((∃ z', (evB tb cf b e = some (.nx (E z')) ∨ evB tb cf b e = some (.ct (E z'))) ∧ P z' ∧ m z' < m z) ∨ (∃ r e', evB tb cf b e = some (.rt r e') ∧ Q (some (.rt r e'))) ∨ (∃ x e', evB tb cf b e = some (.ex x e') ∧ Q (some (.ex x e'))) ∨ ∃ e', evB tb cf b e = some (.bk e') ∧ Q (some (.nx e')))) :
    Q (evS tb cf (.whl t b) (E z)) := while_by E P m Q h whileMost z hp hm
/-! ### calls -/
def callV (cf : CF) (f : Nat) (ds : List D) : M R := fun env => match cf f (ds.map Sl.v) with
  | some (.ret r _) => some (.ok r.r env)
  | some (.ex x _) => some (.ex x env)
  | none => none
def rais {α : Type} (x : Ex) : M α := fun env => some (.ex x env)
@[simp] theorem rais_u {α : Type} (x : Ex) (env : Env) : (rais x : M α) env = some (.ex x env) := rfl
theorem argsR_nb : ∀ (rs : List R) (j : Nat), argsR none j rs = bnd (frzL rs) fun ds => ret (ds.map Ar.v)
  | [], j => rfl
  | r :: rs, j => by
    have e : argR ((none : Option Nat) == some j) r = bnd (frz r) fun d => ret (Ar.v d) := by cases r <;> rfl
    show bnd (argR ((none : Option Nat) == some j) r) (fun a => bnd (argsR none (j + 1) rs) fun as => ret (a :: as)) = _
    rw [e, argsR_nb rs (j+1)]
    funext env
    simp only [bnd_u, frzL_cons]
    cases frz r env with
    | none => rfl
    | some o =>
      cases o with
      | ex x e => rfl
      | ok d e =>
        simp only [ret_u]
        cases frzL rs e with
        | none => rfl
        | some o => cases o <;> rfl
theorem callM_nb {tb : Tab} {cf : CF} {f : Nat} {d : Def} {rs : List R} (hd : tb.fns f = some d) (hb : d.bor = none) (hn : rs.length = d.np) : callM tb cf f rs = bnd (frzL rs) (callV cf f) := by
  unfold callM
  rw [hd]
  simp only
  rw [if_pos hn, hb, argsR_nb]
  funext env
  simp only [bnd_u]
  cases frzL rs env with
  | none => rfl
  | some o =>
    cases o with
    | ex x e => rfl
    | ok ds e =>
      simp only [ret_u]
      have : slsOf e (ds.map Ar.v) = some (ds.map Sl.v) := by
        induction ds with
        | nil => rfl
        | cons d ds ih =>
          show (match slOf e (.v d), slsOf e (ds.map Ar.v) with
            | some s, some ss => some (s :: ss)
            | _, _ => none) = _
          rw [ih]
          rfl
      rw [this]
      unfold callV
      cases q : cf f (ds.map Sl.v) with
      | none => simp only [q]
      | some c =>
        simp only [q]
        cases c <;> rfl
def IsRt (o : Option SO) (r : PR) : Prop := match o with
  | some (.rt r' _) => r' = r
  | some (.nx _) => r = .v .non
  | _ => False
@[simp] theorem isRt_rt (r r' : PR) (e : Env) : IsRt (some (.rt r' e)) r = (r' = r) := rfl
@[simp] theorem isRt_nx (r : PR) (e : Env) : IsRt (some (.nx e)) r = (r = .v .non) := rfl
def IsEx (o : Option SO) (x : Ex) : Prop := match o with
  | some (.ex x' _) => x' = x
  | _ => False
@[simp] theorem isEx_ex (x x' : Ex) (e : Env) : IsEx (some (.ex x' e)) x = (x' = x) := rfl
section
variable {tb : Tab} {f k : Nat} {d : Def} {ds : List D} {r : PR} {x : Ex}
theorem callV_rt (hd : tb.fns f = some d) (hn : ds.length = d.np) (hs : d.np ≤ d.ns) (h : IsRt (evB tb (callF tb k) d.body (ds.map Sl.v ++ List.replicate (d.ns - d.np) .un)) r) : callV (callF tb (k+1)) f ds = ret r.r := by
  funext env
  unfold callV
  rw [call_eq hd]
  unfold runDef
  rw [if_pos ⟨by rw [List.length_map]; exact hn, hs⟩]
  cases q : evB tb (callF tb k) d.body (ds.map Sl.v ++ List.replicate (d.ns - d.np) .un) with
  | none => rw [q] at h; exact h.elim
  | some o =>
    rw [q] at h
    cases o with
    | nx e => have h : r = .v .non := h; subst h; rfl
    | rt r' e => have h : r' = r := h; subst h; rfl
    | bk e => exact h.elim
    | ct e => exact h.elim
    | ex x e => exact h.elim
theorem callV_ex (hd : tb.fns f = some d) (hn : ds.length = d.np) (hs : d.np ≤ d.ns) (h : IsEx (evB tb (callF tb k) d.body (ds.map Sl.v ++ List.replicate (d.ns - d.np) .un)) x) : callV (callF tb (k+1)) f ds = rais x := by
  funext env
  unfold callV
  rw [call_eq hd]
  unfold runDef
  rw [if_pos ⟨by rw [List.length_map]; exact hn, hs⟩]
  cases q : evB tb (callF tb k) d.body (ds.map Sl.v ++ List.replicate (d.ns - d.np) .un) with
  | none => rw [q] at h; exact h.elim
  | some o =>
    rw [q] at h
    cases o with
    | nx e => exact h.elim
    | rt r' e => exact h.elim
    | bk e => exact h.elim
    | ct e => exact h.elim
    | ex x' e => have h : x' = x := h; subst h; rfl
end
end Ev

set_option Elab.async false
set_option linter.all false
set_option maxRecDepth 100000
set_option maxHeartbeats 4000000
/-! Draws. -/
namespace Ev
open PySem
@[simp] theorem ixN41 : L2.ixN 4 1 = some 1 := rfl
@[simp] theorem ixN42 : L2.ixN 4 2 = some 2 := rfl
@[simp] theorem ixN43 : L2.ixN 4 3 = some 3 := rfl
/-! ### drawing -/
def bTake : Ss := (.cons (.cond (.cmp .Eq (.ix (.var 0) (.int 2)) (.int 0)) (.cons (.setix 0 (.int 1) (.bin .Add (.ix (.var 0) (.int 1)) (.int 1)))
 (.cons (.cond (.cmp .Lt (.ix (.var 0) (.int 1)) (.bi .len (.cons (.ix (.var 0) (.int 0)) .nil))) (.cons (.setix 0 (.int 2) (.ix (.ix (.var 0) (.int 0)) (.ix (.var 0) (.int 1))))
 .nil) .nil)
 (.cons (.cond (.cmp .Eq (.ix (.var 0) (.int 2)) (.int 0)) (.cons (.setix 0 (.int 3) (.bin .Mod (.bi .int (.cons (.bin .Add (.bin .Mult (.ix (.var 0) (.int 3)) (.int 48271)) (.int 11)) .nil)) (.int 2147483647)))
 (.cons (.setix 0 (.int 2) (.ix (.var 0) (.int 3)))
 .nil)) .nil)
 .nil))) .nil)
 (.cons (.asg (.nm 2) (.bin .Mod (.bi .int (.cons (.ix (.var 0) (.int 2)) .nil)) (.var 1)))
 (.cons (.setix 0 (.int 2) (.bin .FloorDiv (.ix (.var 0) (.int 2)) (.var 1)))
 (.cons (.ret (.var 2))
 .nil))))
def dTake : Def := ⟨2, 3, bTake, some 0⟩
/-- a draw's object -/
def Dr (o : Ob) : Prop := ∃ (cells : List Int) (idx cur seed : Int), o = .lst [.lst (cells.map D.int), .int idx, .int cur, .int seed] ∧ (∀ c ∈ cells, 0 ≤ c) ∧ -1 ≤ idx ∧ 0 ≤ cur ∧ 0 ≤ seed
set_option maxHeartbeats 4000000 in
theorem take_run {tb : Tab} {cf : CF} {o : Ob} {m : Int} (hd : Dr o) (h1 : 0 < m) (h2 : m < 1073741824) :
    ∃ r o' e, runDef tb cf dTake [.ow true o, .v (.int m)] = some (.ret (.v (.int r)) (.ow true o' :: e)) ∧ Dr o' ∧ 0 ≤ r ∧ r < m := by
  obtain ⟨cells, idx, cur, seed, rfl, hc, hi, hcu, hs⟩ := hd
  by_cases z : cur = 0
  · subst z
    by_cases hl : idx + 1 < (cells.length : Int)
    · obtain ⟨n, hn⟩ := Int.eq_ofNat_of_zero_le (show 0 ≤ idx + 1 by omega)
      have hn : idx + 1 = (n : Int) := hn
      have hnl : n < cells.length := by omega
      have hx : ixD (.lst (cells.map D.int)) (.int (idx + 1)) = some (.int cells[n]) := by
        rw [hn, ix_lst, List.getElem?_map, List.getElem?_eq_getElem hnl]; rfl
      have hcn : 0 ≤ cells[n] := hc _ (List.getElem_mem hnl)
      by_cases z2 : cells[n] = 0
      · refine ⟨((seed * 48271 + 11) % 2147483647) % m, .lst [.lst (cells.map D.int), .int (idx + 1), .int ((seed * 48271 + 11) % 2147483647 / m), .int ((seed * 48271 + 11) % 2147483647)], [.v (.int m), .v (.int (((seed * 48271 + 11) % 2147483647) % m))], ?_, ⟨cells, _, _, _, rfl, hc, by omega, ?_, ?_⟩, ?_, ?_⟩
        · simp [runDef, dTake, bTake, hl, hx, z2, h1, h2, divM_ok h1 h2, mulM_r]
        · exact Int.ediv_nonneg (Int.emod_nonneg _ (by omega)) (by omega)
        · exact Int.emod_nonneg _ (by omega)
        · exact Int.emod_nonneg _ (by omega)
        · exact Int.emod_lt_of_pos _ h1
      · refine ⟨cells[n] % m, .lst [.lst (cells.map D.int), .int (idx + 1), .int (cells[n] / m), .int seed], [.v (.int m), .v (.int (cells[n] % m))], ?_, ⟨cells, _, _, _, rfl, hc, by omega, ?_, hs⟩, ?_, ?_⟩
        · simp [runDef, dTake, bTake, hl, hx, z2, h1, h2, divM_ok h1 h2, mulM_r]
        · exact Int.ediv_nonneg hcn (by omega)
        · exact Int.emod_nonneg _ (by omega)
        · exact Int.emod_lt_of_pos _ h1
    · refine ⟨((seed * 48271 + 11) % 2147483647) % m, .lst [.lst (cells.map D.int), .int (idx + 1), .int ((seed * 48271 + 11) % 2147483647 / m), .int ((seed * 48271 + 11) % 2147483647)], [.v (.int m), .v (.int (((seed * 48271 + 11) % 2147483647) % m))], ?_, ⟨cells, _, _, _, rfl, hc, by omega, ?_, ?_⟩, ?_, ?_⟩
      · simp [runDef, dTake, bTake, hl, h1, h2, divM_ok h1 h2, mulM_r]
      · exact Int.ediv_nonneg (Int.emod_nonneg _ (by omega)) (by omega)
      · exact Int.emod_nonneg _ (by omega)
      · exact Int.emod_nonneg _ (by omega)
      · exact Int.emod_lt_of_pos _ h1
  · refine ⟨cur % m, .lst [.lst (cells.map D.int), .int idx, .int (cur / m), .int seed], [.v (.int m), .v (.int (cur % m))], ?_, ⟨cells, _, _, _, rfl, hc, hi, ?_, hs⟩, ?_, ?_⟩
    · simp [runDef, dTake, bTake, z, h1, h2, divM_ok h1 h2, mulM_r]
    · exact Int.ediv_nonneg hcu (by omega)
    · exact Int.emod_nonneg _ (by omega)
    · exact Int.emod_lt_of_pos _ h1
/-! ### the script -/
def lbDraw : Ss := (.cons (.asg (.nm 1) (.bin .Mod (.bi .int (.cons (.bin .Add (.bin .Add (.bin .Mult (.var 1) (.int 48271)) (.bin .Mod (.bi .abs (.cons (.bi .int (.cons (.var 2) .nil)) .nil)) (.int 65521))) (.int 1)) .nil)) (.int 2147483647)))
 (.clr [2] .nil))
def lpDraw : S := (.loop (.nm 2) (.sq (.var 0)) lbDraw)
def lcDraw : E := (.lc (.bi .abs (.cons (.bi .int (.cons (.var 2) .nil)) .nil)) (.nm 2) (.sq (.var 0)) (.bl true) [2])
def bDraw : Ss := (.cons (.asg (.nm 1) (.int 7))
 (.cons lpDraw
 (.cons (.ret (.lst (.cons lcDraw (.cons (.neg (.int 1)) (.cons (.int 0) (.cons (.var 1) .nil))))))
 .nil)))
def dDraw : Def := ⟨1, 3, bDraw, none⟩
section
variable {tb : Tab} {cf : CF} {ns : List Int}
def seedOf (s : Int) (n : Int) : Int := (s * 48271 + (if n < 0 then -n else n) % 65521 + 1) % 2147483647
theorem draw_lp : evS tb cf lpDraw [.v (.scr (ns.map D.int)), .v (.int 7), .un] = some (.nx [.v (.scr (ns.map D.int)), .v (.int (ns.foldl seedOf 7)), .un]) := by
  refine loop_fold ns D.int (fun s => [.v (.scr (ns.map D.int)), .v (.int s), .un]) seedOf (fun _ _ => True) 7 (by simp) trivial fun n z x _ _ _ => ⟨trivial, ?_⟩
  simp [lbDraw, seedOf, mulM_r]
theorem draw_lc {s : Int} (hl : ns.length ≤ 63) : (ev tb cf lcDraw).1 [.v (.scr (ns.map D.int)), .v (.int s), .un] = some (.ok (.fr (.lst ((ns.map fun n => if n < 0 then -n else n).map D.int))) [.v (.scr (ns.map D.int)), .v (.int s), .un]) := by
  refine (lc_mp ns D.int (fun n => .int (if n < 0 then -n else n)) (e1 := [.v (.scr (ns.map D.int)), .v (.int s), .un]) (by simp) (by omega) fun x _ => by simp).trans ?_
  rw [List.map_map]
  rfl
theorem seed_pos : ∀ (ns : List Int) (s : Int), 0 ≤ s → 0 ≤ ns.foldl seedOf s
  | [], s, h => h
  | n :: ns, s, h => seed_pos ns _ (Int.emod_nonneg _ (by omega))
theorem draw_run (hl : ns.length ≤ 63) : ∃ o, IsRt (evB tb cf bDraw [.v (.scr (ns.map D.int)), .un, .un]) (.fr o) ∧ Dr o := by
  refine ⟨.lst [.lst ((ns.map fun n => if n < 0 then -n else n).map D.int), .int (-1), .int 0, .int (ns.foldl seedOf 7)], ?_, _, _, _, _, rfl, fun x hx => ?_, by omega, by omega, seed_pos ns 7 (by omega)⟩
  · simp [bDraw, draw_lp, draw_lc hl]
  · obtain ⟨n, _, rfl⟩ := List.mem_map.mp hx
    split <;> omega
end
/-! ### calls that draw -/
structure DrT where
  o : Ob
  ok : Dr o
def callD (cf : CF) (f i : Nat) (ds : List D) : M R := fun env => match env[i]? with
  | some (.ow b o) => (match cf f (.ow true o :: ds.map Sl.v) with
    | some (.ret r (.ow true o' :: _)) => some (.ok r.r (env.set i (.ow b o')))
    | some (.ex x (.ow true o' :: _)) => some (.ex x (env.set i (.ow b o')))
    | _ => none)
  | _ => none
theorem argsR_d : ∀ (rs : List R) (j : Nat), argsR (some 0) (j + 1) rs = bnd (frzL rs) fun ds => ret (ds.map Ar.v)
  | [], j => rfl
  | r :: rs, j => by
    have e : argR ((some 0 : Option Nat) == some (j + 1)) r = bnd (frz r) fun d => ret (Ar.v d) := by cases r <;> rfl
    show bnd (argR ((some 0 : Option Nat) == some (j + 1)) r) (fun a => bnd (argsR (some 0) (j + 1 + 1) rs) fun as => ret (a :: as)) = _
    rw [e, argsR_d rs (j+1)]
    funext env
    simp only [bnd_u, frzL_cons]
    cases frz r env with
    | none => rfl
    | some o =>
      cases o with
      | ex x e => rfl
      | ok d e =>
        simp only [ret_u]
        cases frzL rs e with
        | none => rfl
        | some o => cases o <;> rfl
theorem slsOf_vs {e : Env} : ∀ ds : List D, slsOf e (ds.map Ar.v) = some (ds.map Sl.v)
  | [] => rfl
  | d :: ds => by
    show (match slOf e (.v d), slsOf e (ds.map Ar.v) with
      | some s, some ss => some (s :: ss)
      | _, _ => none) = _
    rw [slsOf_vs ds]
    rfl
theorem callM_dr {tb : Tab} {cf : CF} {f i : Nat} {d : Def} {rs : List R} {env e : Env} {ds : List D} {b : Bool} {o : Ob} (hd : tb.fns f = some d) (hb : d.bor = some 0) (hn : rs.length + 1 = d.np) (hf : frzL rs env = some (.ok ds e)) (hi : e[i]? = some (.ow b o)) :
    callM tb cf f (.ow i :: rs) env = callD cf f i ds e := by
  unfold callM
  rw [hd]
  simp only
  rw [if_pos (by rw [List.length_cons]; exact hn), hb]
  have e1 : argsR (some 0) 0 (.ow i :: rs) env = some (.ok (Ar.ow i :: ds.map Ar.v) e) := by
    show bnd (argR ((some 0 : Option Nat) == some 0) (.ow i)) (fun a => bnd (argsR (some 0) 1 rs) fun as => ret (a :: as)) env = _
    show bnd (argsR (some 0) 1 rs) (fun as => ret (Ar.ow i :: as)) env = _
    rw [argsR_d rs 0, bnd_u, bnd_u, hf]
    rfl
  rw [bnd_u, e1]
  have e2 : slsOf e (Ar.ow i :: ds.map Ar.v) = some (.ow true o :: ds.map Sl.v) := by
    show (match slOf e (.ow i), slsOf e (ds.map Ar.v) with
      | some s, some ss => some (s :: ss)
      | _, _ => none) = _
    rw [slsOf_vs]
    show (match (match e[i]? with
      | some (.ow _ o) => some (Sl.ow true o)
      | some (.v d) => some (.v d)
      | _ => none), some (ds.map Sl.v) with
      | some s, some ss => some (s :: ss)
      | _, _ => none) = _
    rw [hi]
  simp only [e2]
  unfold callD
  rw [hi]
  show (match cf f (.ow true o :: ds.map Sl.v) with
    | none => none
    | some c => backCall (some (i, 0)) c e) = (match cf f (.ow true o :: ds.map Sl.v) with
    | some (.ret r (.ow true o' :: _)) => some (.ok r.r (e.set i (.ow b o')))
    | some (.ex x (.ow true o' :: _)) => some (.ex x (e.set i (.ow b o')))
    | _ => none)
  cases q : cf f (.ow true o :: ds.map Sl.v) with
  | none => rfl
  | some c =>
    cases c with
    | ret r e' =>
      show (match e[i]? with
        | some (Sl.ow b _) => (match e'[0]? with
          | some (Sl.ow true o) => some (O.ok r.r (e.set i (.ow b o)))
          | _ => none)
        | some (Sl.v _) => some (O.ok r.r e)
        | _ => none) = _
      rw [hi]
      cases e' with
      | nil => rfl
      | cons s e' =>
        cases s with
        | un => rfl
        | v d => rfl
        | ow b' o' => cases b' <;> rfl
    | ex x e' =>
      show (match e[i]? with
        | some (Sl.ow b _) => (match e'[0]? with
          | some (Sl.ow true o) => some (O.ex x (e.set i (.ow b o)))
          | _ => none)
        | some (Sl.v _) => some (O.ex x e)
        | _ => none) = _
      rw [hi]
      cases e' with
      | nil => rfl
      | cons s e' =>
        cases s with
        | un => rfl
        | v d => rfl
        | ow b' o' => cases b' <;> rfl
/-- a call that draws and gives back r -/
def Drw (cf : CF) (f : Nat) (dr : DrT) (ds : List D) (r : PR) (dr' : DrT) : Prop := ∃ e, cf f (.ow true dr.o :: ds.map Sl.v) = some (.ret r (.ow true dr'.o :: e))
section
variable {cf : CF} {f : Nat} {dr dr' : DrT} {ds : List D} {r : PR} {b : Bool} {rest : Env} {s : Sl}
theorem Drw.at0 (h : Drw cf f dr ds r dr') : callD cf f 0 ds (.ow b dr.o :: rest) = some (.ok r.r (.ow b dr'.o :: rest)) := by
  obtain ⟨e, h⟩ := h
  unfold callD
  simp [h]
theorem Drw.at1 (h : Drw cf f dr ds r dr') : callD cf f 1 ds (s :: .ow b dr.o :: rest) = some (.ok r.r (s :: .ow b dr'.o :: rest)) := by
  obtain ⟨e, h⟩ := h
  unfold callD
  simp [h]
end
def IsDr (o : Option SO) (r : PR) (p : Ob) : Prop := match o with
  | some (.rt r' (.ow true o' :: _)) => r' = r ∧ o' = p
  | _ => False
@[simp] theorem isDr_rt (r r' : PR) (o p : Ob) (e : Env) : IsDr (some (.rt r' (.ow true o :: e))) r p = (r' = r ∧ o = p) := rfl
theorem drw_of {tb : Tab} {k f : Nat} {d : Def} {dr dr' : DrT} {ds : List D} {r : PR} (hd : tb.fns f = some d) (hn : ds.length + 1 = d.np) (hs : d.np ≤ d.ns) (h : IsDr (evB tb (callF tb k) d.body (.ow true dr.o :: ds.map Sl.v ++ List.replicate (d.ns - d.np) .un)) r dr'.o) : Drw (callF tb (k+1)) f dr ds r dr' := by
  unfold Drw
  rw [call_eq hd]
  unfold runDef
  rw [if_pos ⟨by rw [List.length_cons, List.length_map]; exact hn, hs⟩]
  cases q : evB tb (callF tb k) d.body (.ow true dr.o :: ds.map Sl.v ++ List.replicate (d.ns - d.np) .un) with
  | none => rw [q] at h; exact h.elim
  | some o =>
    rw [q] at h
    cases o with
    | nx e => exact h.elim
    | bk e => exact h.elim
    | ct e => exact h.elim
    | ex x e => exact h.elim
    | rt r' e =>
      cases e with
      | nil => exact h.elim
      | cons s e =>
        cases s with
        | un => exact h.elim
        | v d => exact h.elim
        | ow b o =>
          cases b with
          | false => exact h.elim
          | true =>
            obtain ⟨h1, h2⟩ := h
            exact ⟨e, by rw [h1, h2]⟩
/-- _law_take -/
theorem take_drw {tb : Tab} {k f : Nat} (hd : tb.fns f = some dTake) (dr : DrT) {m : Nat} (h1 : 0 < m) (h2 : m < 1073741824) : ∃ (r : Nat) (dr' : DrT), Drw (callF tb (k+1)) f dr [.int m] (.v (.int r)) dr' ∧ r < m := by
  obtain ⟨r, o', e, q1, q2, q3, q4⟩ := take_run (tb := tb) (cf := callF tb k) dr.ok (m := (m : Int)) (by omega) (by omega)
  obtain ⟨n, rfl⟩ := Int.eq_ofNat_of_zero_le q3
  refine ⟨n, ⟨o', q2⟩, ⟨e, ?_⟩, by omega⟩
  rw [call_eq hd]
  exact q1
theorem draw_ret {tb : Tab} {k f : Nat} {ns : List Int} (hd : tb.fns f = some dDraw) (hl : ns.length ≤ 63) : ∃ dr : DrT, callV (callF tb (k+1)) f [.scr (ns.map D.int)] = ret (.fr dr.o) := by
  obtain ⟨o, h1, h2⟩ := draw_run (tb := tb) (cf := callF tb k) hl
  exact ⟨⟨o, h2⟩, callV_rt (r := .fr o) hd rfl (by decide) h1⟩
end Ev

set_option Elab.async false
set_option linter.all false
set_option maxRecDepth 100000
set_option maxHeartbeats 1000000
/-! Things as data: equality, in, index. -/
namespace Ev
open PySem
/-- things of a kind, as data of a bounded depth, told apart by == -/
structure Enc (α : Type) [DecidableEq α] where
  f : α → D
  p : α → PyData
  dep : Nat
  to : ∀ x, toPy (f x) = some (p x)
  lay : ∀ x, (p x).canLay0 = true
  dp : ∀ x, (p x).depth ≤ dep
  eq : ∀ x y, PyData.eqv (p x) (p y) = decide (x = y)
section
variable {α β : Type} [DecidableEq α] [DecidableEq β]
def Enc.nat : Enc Nat := ⟨fun n => .int n, fun n => .int n, 1, fun _ => rfl, fun _ => rfl, fun _ => by simp [PyData.depth], fun x y => by
  show ((x : Int) == (y : Int)) = decide (x = y)
  by_cases h : x = y
  · subst h; simp
  · have h' : ¬ (x : Int) = (y : Int) := fun q => h (Int.ofNat.inj q)
    rw [decide_eq_false h]
    exact beq_eq_false_iff_ne.mpr h'⟩
def Enc.int : Enc Int := ⟨fun n => .int n, fun n => .int n, 1, fun _ => rfl, fun _ => rfl, fun _ => by simp [PyData.depth], fun x y => by
  show (x == y) = decide (x = y)
  by_cases h : x = y
  · subst h; simp
  · simp [h]⟩
def Enc.bl : Enc Bool := ⟨fun n => .bl n, fun n => .bool n, 1, fun _ => rfl, fun _ => rfl, fun _ => by simp [PyData.depth], fun x y => by cases x <;> cases y <;> rfl⟩
theorem Enc.toL (e : Enc α) : ∀ l : List α, toPyL (l.map e.f) = some (l.map e.p)
  | [] => rfl
  | x :: l => by
    show (match toPy (e.f x) with
      | some y => (toPyL (l.map e.f)).map (y :: ·)
      | none => none) = _
    rw [e.to, e.toL l]; rfl
theorem Enc.layL (e : Enc α) : ∀ l : List α, PyData.canLayAll0 (l.map e.p) = true
  | [] => rfl
  | x :: l => by
    show (PyData.canLay0 (e.p x) && PyData.canLayAll0 (l.map e.p)) = true
    rw [e.lay, e.layL l]; rfl
theorem Enc.dpL (e : Enc α) : ∀ l : List α, PyData.depthAll (l.map e.p) ≤ e.dep
  | [] => by simp [PyData.depthAll]
  | x :: l => by
    have h1 := e.dp x
    have h2 := e.dpL l
    simp only [List.map_cons, PyData.depthAll]
    omega
theorem Enc.eqL (e : Enc α) : ∀ l m : List α, PyData.eqvAll (l.map e.p) (m.map e.p) = decide (l = m)
  | [], [] => rfl
  | [], y :: m => by simp [PyData.eqvAll]
  | x :: l, [] => by simp [PyData.eqvAll]
  | x :: l, y :: m => by
    show (PyData.eqv (e.p x) (e.p y) && PyData.eqvAll (l.map e.p) (m.map e.p)) = _
    rw [e.eq, e.eqL l m]
    by_cases h1 : x = y <;> by_cases h2 : l = m <;> simp [h1, h2]
/-- lists, tuples of them -/
def Enc.list (e : Enc α) : Enc (List α) := ⟨fun l => .lst (l.map e.f), fun l => .list (l.map e.p), e.dep + 1, fun l => by
  show (toPyL (l.map e.f)).map PyData.list = _
  rw [e.toL]; rfl, fun l => e.layL l, fun l => by have := e.dpL l; simp only [PyData.depth]; omega, fun l m => e.eqL l m⟩
def Enc.tupL (e : Enc α) : Enc (List α) := ⟨fun l => .tup (l.map e.f), fun l => .tuple (l.map e.p), e.dep + 1, fun l => by
  show (toPyL (l.map e.f)).map PyData.tuple = _
  rw [e.toL]; rfl, fun l => e.layL l, fun l => by have := e.dpL l; simp only [PyData.depth]; omega, fun l m => e.eqL l m⟩
/-- pairs -/
def Enc.pair (e : Enc α) (g : Enc β) : Enc (α × β) := ⟨fun z => .tup [e.f z.1, g.f z.2], fun z => .tuple [e.p z.1, g.p z.2], max e.dep g.dep + 1, fun z => by
  show (match toPy (e.f z.1) with
    | some y => ((match toPy (g.f z.2) with
      | some y => (some ([] : List PyData)).map (y :: ·)
      | none => none)).map (y :: ·)
    | none => none).map PyData.tuple = _
  rw [e.to, g.to]; rfl, fun z => by
  show (PyData.canLay0 (e.p z.1) && (PyData.canLay0 (g.p z.2) && true)) = true
  rw [e.lay, g.lay]; rfl, fun z => by have h1 := e.dp z.1; have h2 := g.dp z.2; simp only [PyData.depth, PyData.depthAll]; omega, fun z w => by
  show (PyData.eqv (e.p z.1) (e.p w.1) && (PyData.eqv (g.p z.2) (g.p w.2) && true)) = _
  rw [e.eq, g.eq]
  obtain ⟨a, b⟩ := z
  obtain ⟨c, d⟩ := w
  by_cases h1 : a = c <;> by_cases h2 : b = d <;> simp [h1, h2]⟩
theorem Enc.shaped (e : Enc α) (h : e.dep ≤ 64) (x : α) : SeqAt.shaped (e.p x) = true := by
  unfold SeqAt.shaped
  rw [e.lay x, decide_eq_true (Nat.le_trans (e.dp x) h)]; rfl
theorem enc_eq (e : Enc α) (h : e.dep ≤ 64) (x y : α) : eqD (e.f x) (e.f y) = some (decide (x = y)) := by
  have old : eqA (e.f x) (e.f y) = some (decide (x = y)) := by
    unfold eqA
    rw [e.to, e.to]
    show (if SeqAt.shaped (e.p x) && SeqAt.shaped (e.p y) then some (PyData.eqv (e.p x) (e.p y)) else none) = _
    rw [e.shaped h, e.shaped h, e.eq]; rfl
  have tx := e.to x
  have ty := e.to y
  have eq := e.eq x y
  unfold eqD
  cases q1 : e.f x with
  | str a =>
    cases q2 : e.f y with
    | str b =>
      rw [q1] at tx
      rw [q2] at ty
      have tx : some (PyData.str a) = some (e.p x) := tx
      have ty : some (PyData.str b) = some (e.p y) := ty
      rw [← Option.some.inj tx, ← Option.some.inj ty] at eq
      have eq : (a == b) = decide (x = y) := eq
      show some (decide (a = b)) = _
      rw [← eq]
      by_cases h : a = b
      · subst h; simp
      · simp [h]
    | _ => rw [q1, q2] at old; exact old
  | _ => rw [q1] at old; exact old
theorem any_mem (e : Enc α) (x : α) : ∀ l : List α, ((l.map e.p).any fun z => PyData.eqv z (e.p x)) = decide (x ∈ l)
  | [] => rfl
  | y :: l => by
    rw [List.map_cons, List.any_cons, e.eq, any_mem e x l]
    by_cases h1 : y = x
    · subst h1; simp
    · by_cases h2 : x ∈ l
      · simp [h2]
      · have : ¬ x = y := fun q => h1 q.symm
        simp [h1, h2, this]
theorem enc_in (e : Enc α) (h : e.dep + 1 ≤ 64) (x : α) (l : List α) : inD (e.f x) (.lst (l.map e.f)) = some (decide (x ∈ l)) := by
  show (match toPy (e.f x), toPyL (l.map e.f) with
    | some x, some ys => if SeqAt.shaped x && SeqAt.shaped (.list ys) then some (ys.any fun z => PyData.eqv z x) else none
    | _, _ => none) = _
  rw [e.to, e.toL]
  have h2 : SeqAt.shaped (.list (l.map e.p)) = true := e.list.shaped h l
  show (if SeqAt.shaped (e.p x) && SeqAt.shaped (.list (l.map e.p)) then some ((l.map e.p).any fun z => PyData.eqv z (e.p x)) else none) = _
  rw [e.shaped (by omega), h2, any_mem]; rfl
theorem enc_inT (e : Enc α) (h : e.dep + 1 ≤ 64) (x : α) (l : List α) : inD (e.f x) (.tup (l.map e.f)) = some (decide (x ∈ l)) := by
  show (match toPy (e.f x), toPyL (l.map e.f) with
    | some x, some ys => if SeqAt.shaped x && SeqAt.shaped (.tuple ys) then some (ys.any fun z => PyData.eqv z x) else none
    | _, _ => none) = _
  rw [e.to, e.toL]
  have h2 : SeqAt.shaped (.tuple (l.map e.p)) = true := e.tupL.shaped h l
  show (if SeqAt.shaped (e.p x) && SeqAt.shaped (.tuple (l.map e.p)) then some ((l.map e.p).any fun z => PyData.eqv z (e.p x)) else none) = _
  rw [e.shaped (by omega), h2, any_mem]; rfl
theorem enc_in' (e : Enc α) (h : e.dep + 1 ≤ 64) (x : α) (l : List α) [Decidable (x ∈ l)] : inD (e.f x) (.lst (l.map e.f)) = some (decide (x ∈ l)) := by
  rw [enc_in e h x l]
  congr
theorem enc_inT' (e : Enc α) (h : e.dep + 1 ≤ 64) (x : α) (l : List α) [Decidable (x ∈ l)] : inD (e.f x) (.tup (l.map e.f)) = some (decide (x ∈ l)) := by
  rw [enc_inT e h x l]
  congr
theorem enc_eq' (e : Enc α) (h : e.dep ≤ 64) (x y : α) [Decidable (x = y)] : eqD (e.f x) (e.f y) = some (decide (x = y)) := by
  rw [enc_eq e h x y]
  congr
theorem find_ix (e : Enc α) (x : α) : ∀ l : List α, ((l.map e.p).findIdx? fun z => PyData.eqv z (e.p x)) = l.findIdx? fun y => decide (y = x)
  | [] => rfl
  | y :: l => by
    rw [List.map_cons, List.findIdx?_cons, List.findIdx?_cons, e.eq, find_ix e x l]
theorem enc_ix (e : Enc α) (h : e.dep + 1 ≤ 64) (x : α) (l : List α) : bmD .lindex (.lst (l.map e.f)) [e.f x] = (l.findIdx? fun y => decide (y = x)).map fun (j : Nat) => PR.v (.int j) := by
  have h2 : SeqAt.shaped (.list (l.map e.p)) = true := e.list.shaped h l
  simp only [bmD, e.to, e.toL, e.shaped (show e.dep ≤ 64 by omega), h2, find_ix]
  cases l.findIdx? fun y => decide (y = x) <;> rfl
end
end Ev
namespace Ev
open PySem
theorem ix_last (l : List D) : ixD (.lst l) (.int (-1)) = l.getLast? := by
  show (L2.ixN l.length (-1)).bind (fun j => l[j]?) = _
  unfold L2.ixN
  rw [if_neg (by decide)]
  cases l with
  | nil => rfl
  | cons a l =>
    rw [if_pos (by rw [List.length_cons]; omega)]
    show (a :: l)[(-1 + ((a :: l).length : Int)).toNat]? = _
    rw [List.getLast?_eq_getElem?]
    congr 1
    rw [List.length_cons]
    omega
theorem pigeon : ∀ (n : Nat) (f : Nat → Nat), (∀ i, i ≤ n → f i < n) → ∃ i j, i < j ∧ j ≤ n ∧ f i = f j
  | 0, f, h => absurd (h 0 (Nat.le_refl _)) (by omega)
  | n + 1, f, h => by
    by_cases q : ∃ i, i ≤ n ∧ f i = f (n + 1)
    · obtain ⟨i, hi, e⟩ := q
      exact ⟨i, n + 1, by omega, Nat.le_refl _, e⟩
    · have q' : ∀ i, i ≤ n → f i ≠ f (n + 1) := fun i hi e => q ⟨i, hi, e⟩
      obtain ⟨i, j, h1, h2, h3⟩ := pigeon n (fun i => if f (n + 1) < f i then f i - 1 else f i) fun i hi => by
        have a := h i (by omega)
        have b := q' i hi
        have c := h (n + 1) (Nat.le_refl _)
        by_cases d : f (n + 1) < f i
        · rw [if_pos d]; omega
        · rw [if_neg d]; omega
      refine ⟨i, j, h1, by omega, ?_⟩
      have a := q' i (by omega)
      have b := q' j h2
      by_cases d : f (n + 1) < f i <;> by_cases e : f (n + 1) < f j
      · rw [if_pos d, if_pos e] at h3; omega
      · rw [if_pos d, if_neg e] at h3; omega
      · rw [if_neg d, if_pos e] at h3; omega
      · rw [if_neg d, if_neg e] at h3; omega
theorem least {P : Nat → Prop} (n : Nat) (h : P n) : ∃ m, m ≤ n ∧ P m ∧ ∀ k, k < m → ¬ P k := by
  induction n using Nat.strongRecOn with
  | ind n ih =>
    by_cases q : ∃ k, k < n ∧ P k
    · obtain ⟨k, h1, h2⟩ := q
      obtain ⟨m, a, b, c⟩ := ih k h1 h2
      exact ⟨m, by omega, b, c⟩
    · exact ⟨n, Nat.le_refl _, h, fun k hk hp => q ⟨k, hk, hp⟩⟩
end Ev
namespace Ev
open PySem
/-! ### going on till something comes again -/
def lastN (m : List Nat) : Nat := m.getLast?.getD 0
def metL (f : Nat → Nat) : Nat → List Nat → List Nat
  | 0, m => m
  | k + 1, m => if f (lastN m) ∈ m then m else metL f k (m ++ [f (lastN m)])
theorem lastN_app (m : List Nat) (x : Nat) : lastN (m ++ [x]) = x := by simp [lastN]
theorem lastN_mem {m : List Nat} (h : m ≠ []) : lastN m ∈ m := by
  unfold lastN
  rw [List.getLast?_eq_some_getLast h]
  exact List.getLast_mem h
theorem nodup_le {n : Nat} {l : List Nat} (h : l.Nodup) (hl : ∀ x ∈ l, x < n) : l.length ≤ n := by
  refine Decidable.byContradiction fun q => ?_
  have q : n < l.length := by omega
  obtain ⟨i, j, h1, h2, h3⟩ := pigeon n (fun i => l.getD i 0) fun i hi => by
    have : i < l.length := by omega
    rw [List.getD_eq_getElem?_getD, List.getElem?_eq_getElem this]
    exact hl _ (List.getElem_mem this)
  have a : i < l.length := by omega
  have b : j < l.length := by omega
  simp only [List.getD_eq_getElem?_getD, List.getElem?_eq_getElem a, List.getElem?_eq_getElem b, Option.getD_some] at h3
  have := (List.nodup_iff_pairwise_ne.mp h)
  rw [List.pairwise_iff_getElem] at this
  exact this i j a b h1 h3
structure MetOk (f : Nat → Nat) (n : Nat) (m : List Nat) : Prop where
  nd : m.Nodup
  lt : ∀ x ∈ m, x < n
  ne : m ≠ []
theorem MetOk.one {f : Nat → Nat} {n x : Nat} (h : x < n) : MetOk f n [x] := ⟨by simp, by simpa using h, by simp⟩
theorem MetOk.next {f : Nat → Nat} {n : Nat} {m : List Nat} (h : MetOk f n m) (hf : ∀ x, x < n → f x < n) (q : f (lastN m) ∉ m) : MetOk f n (m ++ [f (lastN m)]) := by
  refine ⟨?_, fun x hx => ?_, by simp⟩
  · rw [List.nodup_append]
    refine ⟨h.nd, by simp, fun a ha b hb => ?_⟩
    rw [List.mem_singleton] at hb
    rw [hb]
    exact fun e => q (e ▸ ha)
  · rcases List.mem_append.mp hx with hx | hx
    · exact h.lt x hx
    · rw [List.mem_singleton.mp hx]
      exact hf _ (h.lt _ (lastN_mem h.ne))
theorem MetOk.len {f : Nat → Nat} {n : Nat} {m : List Nat} (h : MetOk f n m) : m.length ≤ n := nodup_le h.nd h.lt
theorem metL_ok {f : Nat → Nat} {n : Nat} (hf : ∀ x, x < n → f x < n) : ∀ (k : Nat) (m : List Nat), MetOk f n m → n < m.length + k → MetOk f n (metL f k m) ∧ f (lastN (metL f k m)) ∈ metL f k m
  | 0, m, h, hk => absurd h.len (by omega)
  | k + 1, m, h, hk => by
    unfold metL
    by_cases q : f (lastN m) ∈ m
    · rw [if_pos q]; exact ⟨h, q⟩
    · rw [if_neg q]
      exact metL_ok hf k _ (h.next hf q) (by rw [List.length_append, List.length_singleton]; omega)
/-- the run from x -/
def run (f : Nat → Nat) (n x : Nat) : List Nat := metL f n [x]
theorem run_ok {f : Nat → Nat} {n x : Nat} (hf : ∀ x, x < n → f x < n) (hx : x < n) : MetOk f n (run f n x) ∧ f (lastN (run f n x)) ∈ run f n x := metL_ok hf n [x] (.one hx) (by simp)
theorem metL_step {f : Nat → Nat} {n k : Nat} {m : List Nat} (h : MetOk f n m) (hf : ∀ x, x < n → f x < n) (q : f (lastN m) ∉ m) (hk : n < m.length + k) : ∃ k', k = k' + 1 ∧ metL f k m = metL f k' (m ++ [f (lastN m)]) := by
  have := (h.next hf q).len
  rw [List.length_append, List.length_singleton] at this
  cases k with
  | zero => omega
  | succ k =>
    refine ⟨k, rfl, ?_⟩
    conv => lhs; unfold metL
    rw [if_neg q]
/-- the place of v -/
def idx (m : List Nat) (v : Nat) : Nat := (m.findIdx? fun y => decide (y = v)).getD 0
theorem idx_some {m : List Nat} {v : Nat} (h : v ∈ m) : (m.findIdx? fun y => decide (y = v)) = some (idx m v) := by
  unfold idx
  cases q : m.findIdx? fun y => decide (y = v) with
  | none =>
    rw [List.findIdx?_eq_none_iff] at q
    exact absurd (q v h) (by simp)
  | some i => rfl
theorem idx_lt {m : List Nat} {v : Nat} (h : v ∈ m) : idx m v < m.length := by
  have := idx_some h
  rw [List.findIdx?_eq_some_iff_getElem] at this
  exact this.1
theorem idx_at {m : List Nat} {v : Nat} (h : v ∈ m) : m[idx m v]? = some v := by
  have := idx_some h
  rw [List.findIdx?_eq_some_iff_getElem] at this
  obtain ⟨h1, h2, _⟩ := this
  rw [List.getElem?_eq_getElem h1, of_decide_eq_true h2]
/-! ### slices -/
@[simp] theorem slL_lst (k : Nat) (l : List D) : slD (some (k : Int)) none (.lst l) = some (.fr (.lst (l.drop k))) := by
  show some (PR.fr (.lst (cutD l (some (k : Int)) none))) = _
  unfold cutD
  rw [HT.sIx_nat, HT.sIx_none]
  congr 3
  by_cases h : k ≤ l.length
  · rw [Nat.min_eq_left h]
    exact List.take_of_length_le (by simp)
  · rw [Nat.min_eq_right (by omega), List.drop_eq_nil_of_le (show l.length ≤ k by omega), List.drop_length]
    simp
@[simp] theorem slL_tup (k : Nat) (l : List D) : slD (some (k : Int)) none (.tup l) = some (.v (.tup (l.drop k))) := by
  have := slL_lst k l
  have : some (PR.fr (.lst (cutD l (some (k : Int)) none))) = some (PR.fr (.lst (l.drop k))) := this
  show some (PR.v (.tup (cutD l (some (k : Int)) none))) = _
  injection this with this
  injection this with this
  injection this with this
  rw [this]
theorem foldl_app {α β : Type} (f : α → β) : ∀ (l : List α) (acc : List β), l.foldl (fun acc x => acc ++ [f x]) acc = acc ++ l.map f
  | [], acc => by simp
  | x :: l, acc => by rw [List.foldl_cons, foldl_app f l]; simp
theorem fm_if {α β : Type} (p : α → Bool) (f : α → β) : ∀ l : List α, l.filterMap (fun x => if p x = true then some (f x) else none) = (l.filter p).map f
  | [] => rfl
  | x :: l => by
    rw [List.filterMap_cons, List.filter_cons]
    cases q : p x <;> simp [fm_if p f l]
theorem seq_nx {tb : Tab} {cf : CF} {env : Env} {s : S} {ss : Ss} {e : Env} (h : evS tb cf s env = some (.nx e)) : evB tb cf (.cons s ss) env = evB tb cf ss e := by rw [evB_cons, h]
theorem seq_rt {tb : Tab} {cf : CF} {env : Env} {s : S} {ss : Ss} {r : PR} {e : Env} (h : evS tb cf s env = some (.rt r e)) : evB tb cf (.cons s ss) env = some (.rt r e) := by rw [evB_cons, h]
theorem callV_inv {cf : CF} {f : Nat} {ds : List D} {d : D} (h : callV cf f ds = ret (.v d)) : ∃ e, cf f (ds.map Sl.v) = some (.ret (.v d) e) := by
  have h := congrFun h []
  unfold callV at h
  cases q : cf f (ds.map Sl.v) with
  | none => rw [q] at h; cases h
  | some c =>
    rw [q] at h
    cases c with
    | ex x e => cases h
    | ret r e =>
      cases r with
      | v d' =>
        have h : some (O.ok (R.v d') []) = some (O.ok (R.v d) ([] : Env)) := h
        injection h with h
        injection h with h
        injection h with h
        subst h
        exact ⟨e, rfl⟩
      | fr o => cases h
@[simp] theorem slH_lst (k : Nat) (l : List D) : slD none (some (k : Int)) (.lst l) = some (.fr (.lst (l.take k))) := by
  show some (PR.fr (.lst (cutD l none (some (k : Int))))) = _
  unfold cutD
  rw [HT.sIx_nat, HT.sIx_none]
  congr 3
  rw [List.drop_zero, Nat.sub_zero]
  by_cases h : k ≤ l.length
  · rw [Nat.min_eq_left h]
  · rw [Nat.min_eq_right (by omega), List.take_of_length_le (by omega), List.take_of_length_le (by omega)]
end Ev

set_option Elab.async false
set_option linter.all false
set_option maxRecDepth 100000
set_option maxHeartbeats 1000000
/-! What is shown by repr. -/
namespace Ev
open PySem
/-- d can be shown: weight at most w, depth at most n -/
def Rp (d : D) (w n : Nat) : Prop := ∃ x, toPy d = some x ∧ x.showable = true ∧ x.leavesShort 13 = true ∧ x.canLay0 = true ∧ x.depth ≤ n ∧ x.weight ≤ w
theorem Rp.non : Rp .non 0 0 := ⟨_, rfl, rfl, rfl, rfl, Nat.le_refl _, Nat.le_refl _⟩
theorem Rp.bl (b : Bool) : Rp (.bl b) 0 0 := ⟨_, rfl, rfl, rfl, rfl, Nat.le_refl _, Nat.le_refl _⟩
theorem Rp.int {i : Int} (h : i.natAbs < 1000000000) : Rp (.int i) 30 0 := by
  have l : i ≠ 0 → i.natAbs.log2 < 30 := fun h0 => (Nat.log2_lt (by omega)).mpr (by
    have : (2 : Nat) ^ 30 = 1073741824 := by decide
    omega)
  refine ⟨_, rfl, ?_, ?_, rfl, Nat.le_refl _, ?_⟩
  · show decide (i.natAbs.log2 < 1920) = true
    refine decide_eq_true ?_
    by_cases h0 : i = 0
    · subst h0; decide
    · have := l h0; omega
  · show decide ((PyData.shown (.int i)).length ≤ 13) = true
    refine decide_eq_true (PyData.shown_int_le ?_)
    have : (10 : Nat) ^ 12 = 1000000000000 := by decide
    omega
  · show (if i == 0 then 0 else i.natAbs.log2 + 1) ≤ 30
    by_cases h0 : i = 0
    · subst h0; simp
    · rw [if_neg (by simpa using h0)]
      have := l h0; omega
theorem Rp.nat {i : Nat} (h : i < 1000000000) : Rp (.int (i : Int)) 30 0 := Rp.int (by omega)
theorem Rp.mono {d : D} {w n w' n' : Nat} (h : Rp d w n) (h1 : w ≤ w') (h2 : n ≤ n') : Rp d w' n' := by
  obtain ⟨x, a, b, c, d, e, f⟩ := h
  exact ⟨x, a, b, c, d, by omega, by omega⟩
def RpL (l : List D) (w n : Nat) : Prop := ∃ xs, toPyL l = some xs ∧ PyData.showableAll xs = true ∧ PyData.leavesShortAll 13 xs = true ∧ PyData.canLayAll0 xs = true ∧ PyData.depthAll xs ≤ n ∧ PyData.weightAll xs ≤ w
theorem RpL.nil {n : Nat} : RpL [] 0 n := ⟨[], rfl, rfl, rfl, rfl, by simp [PyData.depthAll], by simp [PyData.weightAll]⟩
theorem RpL.cons {d : D} {l : List D} {w w2 n : Nat} (h : Rp d w n) (h2 : RpL l w2 n) : RpL (d :: l) (w + 1 + w2) n := by
  obtain ⟨x, a1, a2, a3, a4, a5, a6⟩ := h
  obtain ⟨xs, b1, b2, b3, b4, b5, b6⟩ := h2
  refine ⟨x :: xs, ?_, ?_, ?_, ?_, ?_, ?_⟩
  · show (match toPy d with
      | some x => (toPyL l).map (x :: ·)
      | none => none) = _
    rw [a1, b1]; rfl
  · show (x.showable && PyData.showableAll xs) = true
    rw [a2, b2]; rfl
  · show (x.leavesShort 13 && PyData.leavesShortAll 13 xs) = true
    rw [a3, b3]; rfl
  · show (x.canLay0 && PyData.canLayAll0 xs) = true
    rw [a4, b4]; rfl
  · simp only [PyData.depthAll]; omega
  · simp only [PyData.weightAll]; omega
theorem RpL.map {α : Type} {f : α → D} {w n : Nat} : ∀ {l : List α}, (∀ x ∈ l, Rp (f x) w n) → RpL (l.map f) (l.length * (w + 1)) n
  | [], _ => by simpa using RpL.nil
  | x :: l, h => by
    have := RpL.cons (h x List.mem_cons_self) (RpL.map fun y hy => h y (List.mem_cons_of_mem _ hy))
    rw [List.length_cons, Nat.succ_mul, Nat.add_comm (l.length * (w + 1))]
    exact this
theorem Rp.tup {l : List D} {w n : Nat} (h : RpL l w n) : Rp (.tup l) w (n + 1) := by
  obtain ⟨xs, b1, b2, b3, b4, b5, b6⟩ := h
  refine ⟨.tuple xs, ?_, b2, b3, b4, ?_, b6⟩
  · show (toPyL l).map PyData.tuple = _
    rw [b1]; rfl
  · simp only [PyData.depth]; omega
theorem Rp.lst {l : List D} {w n : Nat} (h : RpL l w n) : Rp (.lst l) w (n + 1) := by
  obtain ⟨xs, b1, b2, b3, b4, b5, b6⟩ := h
  refine ⟨.list xs, ?_, b2, b3, b4, ?_, b6⟩
  · show (toPyL l).map PyData.list = _
    rw [b1]; rfl
  · simp only [PyData.depth]; omega
theorem Rp.repr {d : D} {w n : Nat} (h : Rp d w n) (hw : w ≤ 1000000) (hn : n ≤ 64) : ∃ s : Str, biD .repr [d] = some (.v (.str s)) := by
  obtain ⟨x, a1, a2, a3, a4, a5, a6⟩ := h
  have e1 := PyData.hasDict_of_canLay x a4
  have e2 := PyData.shown_fits (B := 13) (by decide) (by decide) a3 (by
    have : (2 : Nat) ^ 20 = 1048576 := by decide
    omega)
  refine ⟨x.shown, ?_⟩
  show (match toPy d with
    | some x => if x.showable && !x.hasDict && decide (x.depth ≤ 64) && decide (x.shown.length ≤ sizeLine) then some (PR.v (.str x.shown)) else none
    | none => none) = _
  rw [a1]
  simp only [a2, e1, decide_eq_true (show x.depth ≤ 64 by omega), decide_eq_true e2]
  rfl
@[simp] theorem eqD_str (a b : Str) : eqD (.str a) (.str b) = some (decide (a = b)) := rfl
end Ev

set_option Elab.async false
set_option linter.all false
set_option maxRecDepth 100000
set_option maxHeartbeats 1000000
/-! Dicts; comprehensions that change a state; texts. -/
namespace Ev
open PySem
section
variable {tb : Tab} {cf : CF} {env : Env}
@[simp] theorem ev_dic0 : ev tb cf .dic0 = both (ret (.fr (.dic []))) := rfl
@[simp] theorem ev_dct0 : ev tb cf .dct0 = both (ret (.fr (.dct []))) := rfl
@[simp] theorem ev_dic1 (k v : E) : ev tb cf (.dic1 k v) = both (bnd (ev tb cf k).1 fun x => bnd (ev tb cf v).1 fun y => bnd (frz y) fun d env => match cont env x with
    | some c => dic1P c d env
    | none => none) := rfl
@[simp] theorem evS_setd (i : Nat) (k e : E) : evS tb cf (.setd i k e) env = runM (bnd (ev tb cf e).1 fun x => bnd (frz x) fun d => bnd (ownD i) fun _ => bnd (ev tb cf k).1 fun y => setDc i y d) env fun _ e => some (.nx e) := rfl
@[simp] theorem ownD_u (i : Nat) : ownD i env = match env[i]? with
  | some (.ow _ (.dct _)) => some (.ok () env)
  | some (.ow _ (.dic _)) => some (.ok () env)
  | _ => none := rfl
@[simp] theorem setDc_u (i : Nat) (y : R) (v : D) : setDc i y v env = match cont env y with
  | none => none
  | some c => (match env[i]? with
    | some (.ow b (.dct l)) => (match keyD c with
      | some k => if l.length < sizeLine then some (.ok () (env.set i (.ow b (.dct (putKD l k v))))) else none
      | none => none)
    | some (.ow b (.dic l)) => (match keyN c with
      | some k => if l.length < sizeLine then some (.ok () (env.set i (.ow b (.dic (putN l k v))))) else none
      | none => none)
    | _ => none) := rfl
@[simp] theorem toD_dic (l : List (NestedKey × D)) : (Ob.dic l).toD = .dic l := rfl
theorem dic1P_ok {c v : D} {k : NestedKey} (h : keyN c = some k) : dic1P c v = ret (.fr (.dic [(k, v)])) := by unfold dic1P; rw [h]
@[simp] theorem in_dic (d : D) (l : List (NestedKey × D)) : inD d (.dic l) = (keyN d).map fun k => (lookN l k).isSome := rfl
@[simp] theorem ix_dic (d : D) (l : List (NestedKey × D)) : ixD (.dic l) d = (keyN d).bind (lookN l) := by
  cases d <;> rfl
@[simp] theorem in_dct (d : D) (l : List (L2.Key × D)) : inD d (.dct l) = (keyD d).map fun k => (lookK l k).isSome := rfl
end
/-! ### keys -/
structure KEnc (α : Type) [DecidableEq α] where
  f : α → D
  k : α → NestedKey
  key : ∀ x, keyN (f x) = some (k x)
  inj : ∀ x y, k x = k y → x = y
section
variable {α : Type} [DecidableEq α] (e : KEnc α)
/-- things with their numbers -/
def KEnc.nums (n : Nat) : List α → List (NestedKey × D)
  | [] => []
  | x :: l => (e.k x, .int (n : Nat)) :: KEnc.nums (n + 1) l
def KEnc.met (l : List α) : List (NestedKey × D) := l.map fun x => (e.k x, .bl true)
theorem KEnc.nums_len : ∀ (l : List α) (n : Nat), (e.nums n l).length = l.length
  | [], _ => rfl
  | x :: l, n => by show (e.nums (n+1) l).length + 1 = _; rw [KEnc.nums_len l]; rfl
theorem KEnc.nums_app (x : α) : ∀ (l : List α) (n : Nat), e.nums n (l ++ [x]) = e.nums n l ++ [(e.k x, .int ((n + l.length : Nat) : Int))]
  | [], n => by simp [KEnc.nums]
  | y :: l, n => by
    show (e.k y, D.int (n : Nat)) :: e.nums (n+1) (l ++ [x]) = (e.k y, D.int (n : Nat)) :: (e.nums (n+1) l ++ _)
    rw [KEnc.nums_app x l (n+1)]
    rw [show n + 1 + l.length = n + (y :: l).length by rw [List.length_cons]; omega]
theorem KEnc.look (x : α) : ∀ (l : List α) (n : Nat), lookN (e.nums n l) (e.k x) = (l.findIdx? fun y => decide (y = x)).map fun j => D.int ((n + j : Nat) : Int)
  | [], _ => rfl
  | y :: l, n => by
    rw [List.findIdx?_cons]
    by_cases h : y = x
    · subst h
      simp [KEnc.nums, lookN]
    · have h' : ¬ e.k y = e.k x := fun q => h (e.inj _ _ q)
      have ih := KEnc.look x l (n + 1)
      have : lookN (e.nums n (y :: l)) (e.k x) = lookN (e.nums (n+1) l) (e.k x) := by simp [KEnc.nums, lookN, List.find?_cons, h']
      rw [this, ih]
      simp only [h, decide_false, Bool.false_eq_true, if_false, Option.map_map]
      congr 1
      funext j
      show D.int _ = D.int _
      rw [show n + 1 + j = n + (j + 1) by omega]
theorem KEnc.isSome (x : α) (l : List α) (n : Nat) : (lookN (e.nums n l) (e.k x)).isSome = decide (x ∈ l) := by
  rw [KEnc.look, Option.isSome_map]
  by_cases h : x ∈ l
  · rw [decide_eq_true h, List.findIdx?_isSome]
    exact List.any_eq_true.mpr ⟨x, h, by simp⟩
  · rw [decide_eq_false h]
    have : (l.findIdx? fun y => decide (y = x)) = none := List.findIdx?_eq_none_iff.mpr fun y hy => decide_eq_false fun q => h (q ▸ hy)
    rw [this]; rfl
theorem KEnc.is_t {x : α} {l : List α} (h : x ∈ l) (n : Nat) : (lookN (e.nums n l) (e.k x)).isSome = true := by
  rw [KEnc.isSome]; exact decide_eq_true h
theorem KEnc.is_f {x : α} {l : List α} (h : x ∉ l) (n : Nat) : (lookN (e.nums n l) (e.k x)).isSome = false := by
  rw [KEnc.isSome]; exact decide_eq_false h
theorem KEnc.put {x : α} {l : List α} (h : x ∉ l) : putN (e.nums 0 l) (e.k x) (.int (l.length : Nat)) = e.nums 0 (l ++ [x]) := by
  unfold putN
  have : ((e.nums 0 l).any fun kv => decide (kv.1 = e.k x)) = false := by
    have := KEnc.isSome e x l 0
    rw [decide_eq_false h] at this
    rw [← this]
    unfold lookN
    rw [Option.isSome_map]
    induction e.nums 0 l with
    | nil => rfl
    | cons p q ih =>
      rw [List.any_cons, List.find?_cons]
      by_cases z : p.1 = e.k x <;> simp [z, ih]
  rw [this, e.nums_app, Nat.zero_add]
  rfl
theorem KEnc.met_isSome (x : α) : ∀ l : List α, (lookN (e.met l) (e.k x)).isSome = decide (x ∈ l)
  | [] => rfl
  | y :: l => by
    have ih := KEnc.met_isSome x l
    by_cases h : y = x
    · subst h
      simp [KEnc.met, lookN]
    · have h' : ¬ e.k y = e.k x := fun q => h (e.inj _ _ q)
      have h2 : ¬ x = y := fun q => h q.symm
      have : lookN (e.met (y :: l)) (e.k x) = lookN (e.met l) (e.k x) := by simp [KEnc.met, lookN, List.find?_cons, h']
      rw [this, ih]
      simp [h2]
theorem KEnc.met_t {x : α} {l : List α} (h : x ∈ l) : (lookN (e.met l) (e.k x)).isSome = true := by
  rw [KEnc.met_isSome]; exact decide_eq_true h
theorem KEnc.met_f {x : α} {l : List α} (h : x ∉ l) : (lookN (e.met l) (e.k x)).isSome = false := by
  rw [KEnc.met_isSome]; exact decide_eq_false h
theorem KEnc.met_put {x : α} {l : List α} (h : x ∉ l) : putN (e.met l) (e.k x) (.bl true) = e.met (l ++ [x]) := by
  unfold putN
  have : ((e.met l).any fun kv => decide (kv.1 = e.k x)) = false := by
    rw [List.any_eq_false]
    intro p hp
    obtain ⟨y, hy, rfl⟩ := List.mem_map.mp hp
    have : ¬ e.k y = e.k x := fun q => h (e.inj _ _ q ▸ hy)
    simp [this]
  rw [this]
  simp [KEnc.met]
end
/-! ### comprehensions that draw -/
theorem lcP {α σ : Type} {own : List Nat} {t : D → M (Option D)} (d : α → D) (E : σ → Env) (P : List α → σ → List D → Prop) (xs : List α) (z : σ) (hl : xs.length ≤ 16000000) (h0 : P [] z [])
    (h : ∀ pre x post z acc, xs = pre ++ x :: post → P pre z acc → ∃ z' y, turnC own t (d x) (E z) = some (.ok (some y) (E z')) ∧ P (pre ++ [x]) z' (acc ++ [y])) :
    ∃ z' l, lcLoop own t (xs.map d) [] (E z) = some (.ok l (E z')) ∧ P xs z' l := by
  have key : ∀ (post pre : List α) (z : σ) (acc : List D), xs = pre ++ post → acc.length = pre.length → P pre z acc → ∃ z' l, lcLoop own t (post.map d) acc (E z) = some (.ok l (E z')) ∧ P xs z' l := by
    intro post
    induction post with
    | nil =>
      intro pre z acc e _ hp
      rw [List.append_nil] at e
      subst e
      exact ⟨z, acc, rfl, hp⟩
    | cons x post ih =>
      intro pre z acc e hl2 hp
      obtain ⟨z1, y, h1, h2⟩ := h pre x post z acc e hp
      obtain ⟨z', l, h3, h4⟩ := ih (pre ++ [x]) z1 (acc ++ [y]) (by rw [e]; simp) (by simp [hl2]) h2
      refine ⟨z', l, ?_, h4⟩
      have hacc : acc.length < sizeLine := by
        have := congrArg List.length e
        rw [List.length_append] at this
        rw [sizeLine_eq]; omega
      unfold turnC at h1
      show (match t (d x) (E z) with
        | some (.ok (some x) e) => if acc.length < sizeLine then lcLoop own t (post.map d) (acc ++ [x]) (wipeE e own) else none
        | some (.ok none e) => lcLoop own t (post.map d) acc (wipeE e own)
        | _ => none) = _
      cases q : t (d x) (E z) with
      | none => rw [q] at h1; cases h1
      | some o =>
        rw [q] at h1
        cases o with
        | ex a b => cases h1
        | ok a b =>
          have h1 : some (O.ok a (wipeE b own)) = some (.ok (some y) (E z1)) := h1
          have e1 : a = some y := by injection h1 with h1; injection h1
          have e2 : wipeE b own = E z1 := by injection h1 with h1; injection h1
          subst e1
          show (if acc.length < sizeLine then lcLoop own t (post.map d) (acc ++ [y]) (wipeE b own) else none) = _
          rw [if_pos hacc, e2]
          exact h3
  exact key xs [] z [] rfl rfl h0
theorem lc_pre {tb : Tab} {cf : CF} {α σ : Type} {elt c : E} {t : T} {it : I} {own : List Nat} {env e1 : Env} (xs : List α) (d : α → D) (E : σ → Env) (P : List α → σ → List D → Prop) (z : σ) (hi : evI tb cf it env = some (.ok (xs.map d) e1)) (hw : wipeE e1 own = E z) (hl : xs.length ≤ 16000000) (h0 : P [] z [])
    (h : ∀ pre x post z acc, xs = pre ++ x :: post → P pre z acc → ∃ z' y, turnC own (turn1 (fun d => asgT t (.v d)) (ev tb cf c).2 (ev tb cf elt).1) (d x) (E z) = some (.ok (some y) (E z')) ∧ P (pre ++ [x]) z' (acc ++ [y])) :
    ∃ z' l, (ev tb cf (.lc elt t it c own)).1 env = some (.ok (.fr (.lst l)) (backE e1 (E z') own)) ∧ P xs z' l := by
  obtain ⟨z', l, h1, h2⟩ := lcP d E P xs z hl h0 h
  refine ⟨z', l, ?_, h2⟩
  show lcM own (evI tb cf it) (turn1 (fun d => asgT t (.v d)) (ev tb cf c).2 (ev tb cf elt).1) env = _
  unfold lcM
  rw [bnd_u, hi]
  show (match lcLoop own (turn1 (fun d => asgT t (.v d)) (ev tb cf c).2 (ev tb cf elt).1) (xs.map d) [] (wipeE e1 own) with
    | some (.ok l e) => some (O.ok (R.fr (.lst l)) (backE e1 e own))
    | _ => none) = _
  rw [hw, h1]
theorem cnt_enc {α : Type} [DecidableEq α] (e : Enc α) (h : e.dep + 1 ≤ 64) (x : α) (l : List α) : bmD .lcount (.lst (l.map e.f)) [e.f x] = some (.v (.int ((l.countP fun y => decide (y = x) : Nat) : Int))) := by
  have h2 : SeqAt.shaped (.list (l.map e.p)) = true := e.list.shaped h l
  simp only [bmD, e.to, e.toL, e.shaped (show e.dep ≤ 64 by omega), h2, Bool.and_self, if_true]
  rw [List.countP_map]
  have : l.countP ((fun z => PyData.eqv z (e.p x)) ∘ e.p) = l.countP fun y => decide (y = x) := List.countP_congr fun y _ => by
    show PyData.eqv (e.p y) (e.p x) = true ↔ _
    rw [e.eq]
  rw [this]
end Ev

set_option Elab.async false
set_option linter.all false
set_option autoImplicit false
namespace Ev
/-! walks in order of length, then item by item; the search by layers -/
def lexLt : List Nat → List Nat → Prop
  | _, [] => False
  | [], _ :: _ => True
  | a :: as, b :: bs => a < b ∨ (a = b ∧ lexLt as bs)
def llt (a b : List Nat) : Prop := a.length < b.length ∨ (a.length = b.length ∧ lexLt a b)
def lle (a b : List Nat) : Prop := a = b ∨ llt a b
theorem lexLt_nil {a : List Nat} (h : lexLt a []) : False := by cases a <;> exact h
theorem lexLt_irrefl : ∀ a : List Nat, ¬ lexLt a a
  | [], h => h
  | a :: as, h => by
    rcases h with h | ⟨_, h⟩
    · exact Nat.lt_irrefl _ h
    · exact lexLt_irrefl as h
theorem lexLt_trans : ∀ {a b c : List Nat}, lexLt a b → lexLt b c → lexLt a c
  | _, [], _, h, _ => (lexLt_nil h).elim
  | _, _ :: _, [], _, h => h.elim
  | [], _ :: _, _ :: _, _, _ => trivial
  | a :: as, b :: bs, c :: cs, h1, h2 => by
    rcases h1 with h1 | ⟨e1, h1⟩
    · rcases h2 with h2 | ⟨e2, h2⟩
      · exact .inl (by omega)
      · exact .inl (by omega)
    · rcases h2 with h2 | ⟨e2, h2⟩
      · exact .inl (by omega)
      · exact .inr ⟨by omega, lexLt_trans h1 h2⟩
theorem lexLt_total : ∀ {a b : List Nat}, a.length = b.length → a = b ∨ lexLt a b ∨ lexLt b a
  | [], [], _ => .inl rfl
  | [], _ :: _, h => by cases h
  | _ :: _, [], h => by cases h
  | a :: as, b :: bs, h => by
    rcases Nat.lt_trichotomy a b with q | q | q
    · exact .inr (.inl (.inl q))
    · subst q
      rcases lexLt_total (a := as) (b := bs) (by simpa using h) with r | r | r
      · exact .inl (by rw [r])
      · exact .inr (.inl (.inr ⟨rfl, r⟩))
      · exact .inr (.inr (.inr ⟨rfl, r⟩))
    · exact .inr (.inr (.inl q))
theorem llt_irrefl (a : List Nat) : ¬ llt a a := fun h => by
  rcases h with h | ⟨_, h⟩
  · exact Nat.lt_irrefl _ h
  · exact lexLt_irrefl a h
theorem llt_trans {a b c : List Nat} (h1 : llt a b) (h2 : llt b c) : llt a c := by
  rcases h1 with h1 | ⟨e1, h1⟩ <;> rcases h2 with h2 | ⟨e2, h2⟩
  · exact .inl (by omega)
  · exact .inl (by omega)
  · exact .inl (by omega)
  · exact .inr ⟨by omega, lexLt_trans h1 h2⟩
theorem lle_trans {a b c : List Nat} (h1 : lle a b) (h2 : lle b c) : lle a c := by
  rcases h1 with rfl | h1
  · exact h2
  · rcases h2 with rfl | h2
    · exact .inr h1
    · exact .inr (llt_trans h1 h2)
theorem lle_antisymm {a b : List Nat} (h1 : lle a b) (h2 : lle b a) : a = b := by
  rcases h1 with h1 | h1
  · exact h1
  · rcases h2 with h2 | h2
    · exact h2.symm
    · exact absurd (llt_trans h1 h2) (llt_irrefl a)
theorem lle_total (a b : List Nat) : lle a b ∨ lle b a := by
  rcases Nat.lt_trichotomy a.length b.length with q | q | q
  · exact .inl (.inr (.inl q))
  · rcases lexLt_total q with r | r | r
    · exact .inl (.inl r)
    · exact .inl (.inr (.inr ⟨q, r⟩))
    · exact .inr (.inr (.inr ⟨q.symm, r⟩))
  · exact .inr (.inr (.inl q))
theorem lexLt_app : ∀ {a b : List Nat} (x y : List Nat), a.length = b.length → lexLt a b → lexLt (a ++ x) (b ++ y)
  | _, [], _, _, _, h => (lexLt_nil h).elim
  | [], _ :: _, _, _, h, _ => by cases h
  | a :: as, b :: bs, x, y, hl, h => by
    rcases h with h | ⟨e, h⟩
    · exact .inl h
    · exact .inr ⟨e, lexLt_app x y (by simpa using hl) h⟩
theorem lexLt_pre : ∀ (a : List Nat) {x y : List Nat}, lexLt x y → lexLt (a ++ x) (a ++ y)
  | [], _, _, h => h
  | a :: as, _, _, h => .inr ⟨rfl, lexLt_pre as h⟩
theorem llt_snoc {a b : List Nat} (h : llt a b) (x y : Nat) : llt (a ++ [x]) (b ++ [y]) := by
  rcases h with h | ⟨e, h⟩
  · exact .inl (by simp; omega)
  · exact .inr ⟨by simp [e], lexLt_app _ _ e h⟩
theorem lle_snoc {a b : List Nat} (h : lle a b) (x : Nat) : lle (a ++ [x]) (b ++ [x]) := by
  rcases h with rfl | h
  · exact .inl rfl
  · exact .inr (llt_snoc h x x)
/-! the search -/
section
variable (st : List Nat → Nat)
def bstep (Q : List (List Nat)) (c : List Nat) : List (List Nat) := if st c ∈ Q.map st then Q else Q ++ [c]
def cands (L : List (List Nat)) : List (List Nat) := L.flatMap fun w => [w ++ [0], w ++ [1]]
def bRound (Q L : List (List Nat)) : List (List Nat) := (cands L).foldl (bstep st) Q
def bRun : Nat → List (List Nat) → List (List Nat) → List (List Nat)
  | 0, Q, _ => Q
  | f + 1, Q, L => if L = [] then Q else bRun f (bRound st Q L) ((bRound st Q L).drop Q.length)
variable {st}
/-- candidates one behind another -/
theorem fold_ok : ∀ (C : List (List Nat)) (Q N : List (List Nat)), C.Pairwise llt → (Q ++ N).Pairwise llt → ((Q ++ N).map st).Nodup → (∀ q ∈ Q ++ N, ∀ c ∈ C, llt q c) →
    ∃ N', C.foldl (bstep st) (Q ++ N) = Q ++ (N ++ N') ∧ (Q ++ (N ++ N')).Pairwise llt ∧ ((Q ++ (N ++ N')).map st).Nodup ∧ (∀ c ∈ N', c ∈ C) ∧ ∀ c ∈ C, ∃ q ∈ Q ++ (N ++ N'), st q = st c ∧ lle q c
  | [], Q, N, _, h1, h2, _ => ⟨[], by simp, by simpa using h1, by simpa using h2, by simp, by simp⟩
  | c :: C, Q, N, hC, h1, h2, h3 => by
    rw [List.pairwise_cons] at hC
    rw [List.foldl_cons]
    by_cases q : st c ∈ (Q ++ N).map st
    · have e : bstep st (Q ++ N) c = Q ++ N := by unfold bstep; rw [if_pos q]
      rw [e]
      obtain ⟨N', e1, e2, e3, e4, e5⟩ := fold_ok C Q N hC.2 h1 h2 fun q hq d hd => h3 q hq d (List.mem_cons_of_mem _ hd)
      refine ⟨N', e1, e2, e3, fun d hd => List.mem_cons_of_mem _ (e4 d hd), fun d hd => ?_⟩
      rcases List.mem_cons.mp hd with rfl | hd
      · obtain ⟨q', hq', es⟩ := List.mem_map.mp q
        refine ⟨q', ?_, es, .inr (h3 q' hq' d List.mem_cons_self)⟩
        rcases List.mem_append.mp hq' with z | z
        · exact List.mem_append_left _ z
        · exact List.mem_append_right _ (List.mem_append_left _ z)
      · exact e5 d hd
    · have e : bstep st (Q ++ N) c = Q ++ (N ++ [c]) := by unfold bstep; rw [if_neg q, List.append_assoc]
      rw [e]
      have p1 : (Q ++ (N ++ [c])).Pairwise llt := by
        rw [← List.append_assoc, List.pairwise_append]
        exact ⟨h1, List.pairwise_singleton _ _, fun a ha b hb => by rw [List.mem_singleton.mp hb]; exact h3 a ha c List.mem_cons_self⟩
      have p2 : ((Q ++ (N ++ [c])).map st).Nodup := by
        rw [← List.append_assoc, List.map_append, List.nodup_append]
        exact ⟨h2, by simp, fun a ha b hb => by
          rw [List.map_singleton, List.mem_singleton] at hb
          rw [hb]
          exact fun z => q (z ▸ ha)⟩
      obtain ⟨N', e1, e2, e3, e4, e5⟩ := fold_ok C Q (N ++ [c]) hC.2 p1 p2 fun a ha d hd => by
        rw [← List.append_assoc] at ha
        rcases List.mem_append.mp ha with ha | ha
        · exact h3 a ha d (List.mem_cons_of_mem _ hd)
        · rw [List.mem_singleton.mp ha]; exact hC.1 d hd
      refine ⟨c :: N', by rw [e1]; simp, by simpa using e2, by simpa using e3, fun d hd => ?_, fun d hd => ?_⟩
      · rcases List.mem_cons.mp hd with rfl | hd
        · exact List.mem_cons_self
        · exact List.mem_cons_of_mem _ (e4 d hd)
      · rcases List.mem_cons.mp hd with rfl | hd
        · exact ⟨d, by simp, rfl, .inl rfl⟩
        · obtain ⟨q', h, es⟩ := e5 d hd
          exact ⟨q', by simpa using h, es⟩
structure BI (st : List Nat → Nat) (d : Nat) (P L : List (List Nat)) : Prop where
  pw : (P ++ L).Pairwise llt
  nd : ((P ++ L).map st).Nodup
  cl : ∀ q ∈ P, ∀ h, h ≤ 1 → ∃ q' ∈ P ++ L, st q' = st (q ++ [h]) ∧ lle q' (q ++ [h])
  nil : [] ∈ P ++ L
  lenL : ∀ q ∈ L, q.length = d
  lenP : ∀ q ∈ P, q.length ≤ d
theorem cands_pw {d : Nat} : ∀ {L : List (List Nat)}, L.Pairwise llt → (∀ q ∈ L, q.length = d) → (cands L).Pairwise llt
  | [], _, _ => List.Pairwise.nil
  | w :: L, h, hd => by
    rw [List.pairwise_cons] at h
    have ih := cands_pw h.2 fun q hq => hd q (List.mem_cons_of_mem _ hq)
    show ((w ++ [0]) :: (w ++ [1]) :: cands L).Pairwise llt
    have mem : ∀ c ∈ cands L, ∃ v ∈ L, ∃ h, c = v ++ [h] := fun c hc => by
      obtain ⟨v, hv, hc⟩ := List.mem_flatMap.mp hc
      simp at hc
      rcases hc with rfl | rfl
      · exact ⟨v, hv, 0, rfl⟩
      · exact ⟨v, hv, 1, rfl⟩
    refine List.pairwise_cons.mpr ⟨fun c hc => ?_, List.pairwise_cons.mpr ⟨fun c hc => ?_, ih⟩⟩
    · rcases List.mem_cons.mp hc with rfl | hc
      · exact .inr ⟨by simp, lexLt_pre w (.inl (by omega))⟩
      · obtain ⟨v, hv, x, rfl⟩ := mem c hc
        exact llt_snoc (h.1 v hv) 0 x
    · obtain ⟨v, hv, x, rfl⟩ := mem c hc
      exact llt_snoc (h.1 v hv) 1 x
theorem cands_len {d : Nat} {L : List (List Nat)} (hd : ∀ q ∈ L, q.length = d) : ∀ c ∈ cands L, c.length = d + 1 := fun c hc => by
  obtain ⟨v, hv, hc⟩ := List.mem_flatMap.mp hc
  simp at hc
  rcases hc with rfl | rfl <;> simp [hd v hv]
theorem BI.round {d : Nat} {P L : List (List Nat)} (b : BI st d P L) : ∃ N, bRound st (P ++ L) L = (P ++ L) ++ N ∧ BI st (d + 1) (P ++ L) N := by
  have lp := List.pairwise_append.mp b.pw
  have cp := cands_pw lp.2.1 b.lenL
  have cl := cands_len b.lenL
  have len : ∀ q ∈ P ++ L, q.length ≤ d := fun q hq => by
    rcases List.mem_append.mp hq with hq | hq
    · exact b.lenP q hq
    · exact Nat.le_of_eq (b.lenL q hq)
  obtain ⟨N, e1, e2, e3, e4, e5⟩ := fold_ok (st := st) (cands L) (P ++ L) [] cp (by simpa using b.pw) (by simpa using b.nd) fun q hq c hc => by
    rw [List.append_nil] at hq
    exact .inl (by have := len q hq; have := cl c hc; omega)
  simp only [List.append_nil, List.nil_append] at e1 e2 e3 e5
  refine ⟨N, e1, e2, e3, fun q hq h hh => ?_, List.mem_append_left _ b.nil, fun q hq => cl q (e4 q hq), fun q hq => Nat.le_trans (len q hq) (Nat.le_succ d)⟩
  rcases List.mem_append.mp hq with hq | hq
  · obtain ⟨q', h1, h2⟩ := b.cl q hq h hh
    exact ⟨q', List.mem_append_left _ h1, h2⟩
  · refine e5 (q ++ [h]) (List.mem_flatMap.mpr ⟨q, hq, ?_⟩)
    have : h = 0 ∨ h = 1 := by omega
    rcases this with rfl | rfl <;> simp
theorem BI.start (st : List Nat → Nat) : BI st 0 [] [[]] := ⟨by simp, by simp, by simp, by simp, by simp, by simp⟩
/-- at the end -/
theorem BI.least {d : Nat} {P : List (List Nat)} (b : BI st d P []) (hs : ∀ a b h, st a = st b → st (a ++ [h]) = st (b ++ [h])) : ∀ (n : Nat) (w : List Nat), w.length = n → (∀ x ∈ w, x ≤ 1) → ∃ q ∈ P, st q = st w ∧ lle q w
  | 0, w, hn, _ => by
    have : w = [] := List.eq_nil_of_length_eq_zero hn
    subst this
    exact ⟨[], by simpa using b.nil, rfl, .inl rfl⟩
  | n + 1, w, hn, hw => by
    have hne : w ≠ [] := fun z => by rw [z] at hn; cases hn
    obtain ⟨u, x, rfl⟩ : ∃ u x, w = u ++ [x] := ⟨w.dropLast, w.getLast hne, (List.dropLast_concat_getLast hne).symm⟩
    have hu : u.length = n := by simpa using hn
    obtain ⟨q, h1, h2, h3⟩ := BI.least b hs n u hu fun y hy => hw y (List.mem_append_left _ hy)
    obtain ⟨q', k1, k2, k3⟩ := b.cl q h1 x (hw x (by simp))
    rw [List.append_nil] at k1
    exact ⟨q', k1, k2.trans (hs q u x h2), lle_trans k3 (lle_snoc h3 x)⟩
end
end Ev

set_option Elab.async false
set_option linter.all false
set_option autoImplicit false
/-! sorting walks: by length and item by item -/
namespace Ev
open PySem
abbrev nI (w : List Nat) : List D := w.map fun (n : Nat) => D.int (n : Int)
abbrev nP (w : List Nat) : List PyData := w.map fun (n : Nat) => PyData.int (n : Int)
theorem toPyL_nI (w : List Nat) : toPyL (nI w) = some (nP w) := Enc.nat.toL w
theorem lt_lex : ∀ a b : List Nat, (a.map (fun (n : Nat) => (n : Int)) < b.map (fun (n : Nat) => (n : Int))) ↔ lexLt a b
  | [], [] => by simp [lexLt]
  | [], y :: b => by simp [lexLt]
  | x :: a, [] => by simp [lexLt]
  | x :: a, y :: b => by
    rw [List.map_cons, List.map_cons, List.cons_lt_cons_iff, lt_lex a b]
    show _ ↔ (x < y ∨ (x = y ∧ lexLt a b))
    constructor
    · rintro (h | ⟨h1, h2⟩)
      · exact .inl (by omega)
      · exact .inr ⟨by omega, h2⟩
    · rintro (h | ⟨h1, h2⟩)
      · exact .inl (by omega)
      · exact .inr ⟨by omega, h2⟩
instance decLex (a b : List Nat) : Decidable (lexLt a b) := decidable_of_iff _ (lt_lex a b)
instance decLlt (a b : List Nat) : Decidable (llt a b) := by unfold llt; infer_instance
instance decLle (a b : List Nat) : Decidable (lle a b) := by unfold lle; infer_instance
theorem nP_int (w : List Nat) : nP w = (w.map fun (n : Nat) => (n : Int)).map PyData.int := by rw [List.map_map]; rfl
theorem rowLt_nP (a b : List Nat) : PySem.W.rowLt (nP a) (nP b) = decide (lexLt a b) := by
  rw [nP_int, nP_int, PySem.W.dataLt_ints]
  exact decide_eq_decide.mpr (lt_lex a b)
theorem alike_nP : ∀ a b : List Nat, PySem.W.alikeAll (nP a) (nP b) = true
  | [], _ => by cases ‹List Nat› <;> rfl
  | _ :: _, [] => rfl
  | x :: a, y :: b => by
    show (true && PySem.W.alikeAll (nP a) (nP b)) = true
    rw [alike_nP a b]; rfl
theorem not_llt (a b : List Nat) : (!decide (llt b a)) = decide (lle a b) := by
  by_cases h : llt b a
  · have h' : ¬ lle a b := fun q => by
      have := lle_antisymm q (.inr h)
      subst this
      exact llt_irrefl _ h
    simp [h, h']
  · have h' : lle a b := by
      rcases lle_total a b with q | q
      · exact q
      · rcases q with q | q
        · exact .inl q.symm
        · exact absurd q h
    simp [h, h']
def lwD (w : List Nat) : D := .tup [.int ((w.length : Nat) : Int), .tup (nI w)]
def lwP (w : List Nat) : PyData := .tuple [.int ((w.length : Nat) : Int), .tuple (nP w)]
def wD (w : List Nat) : D := .tup (nI w)
def wP (w : List Nat) : PyData := .tuple (nP w)
theorem toPy_w (w : List Nat) : toPy (wD w) = some (wP w) := by
  show (toPyL (nI w)).map PyData.tuple = _
  rw [toPyL_nI]; rfl
theorem toPy_lw (w : List Nat) : toPy (lwD w) = some (lwP w) := by
  show (toPyL [.int ((w.length : Nat) : Int), wD w]).map PyData.tuple = _
  simp only [toPyL, toPy_w]
  rfl
theorem dataLt_w (a b : List Nat) : PySem.W.dataLt (wP a) (wP b) = decide (lexLt a b) := (PySem.W.dataLt_tuple _ _).trans (rowLt_nP a b)
theorem eqv_w (a b : List Nat) : PyData.eqv (wP a) (wP b) = decide (a = b) := Enc.nat.eqL a b
theorem dataLt_lw (a b : List Nat) : PySem.W.dataLt (lwP a) (lwP b) = decide (llt a b) := by
  have h := PySem.W.dataLt_pair (x := .int ((a.length : Nat) : Int)) (x' := .int ((b.length : Nat) : Int)) (y := wP a) (y' := wP b) rfl (alike_nP a b)
  rw [eqv_w, dataLt_w, PySem.W.dataLt_int] at h
  refine h.trans ?_
  have e : PyData.eqv (.int ((a.length : Nat) : Int)) (.int ((b.length : Nat) : Int)) = decide (a.length = b.length) := Enc.nat.eq a.length b.length
  rw [e]
  by_cases q : a.length = b.length
  · rw [if_pos (decide_eq_true q)]
    by_cases r : a = b
    · subst r
      simp [llt_irrefl]
    · rw [if_neg (by simp [r])]
      refine decide_eq_decide.mpr ⟨fun h => .inr ⟨q, h⟩, fun h => ?_⟩
      rcases h with h | h
      · omega
      · exact h.2
  · rw [if_neg (by simp [q])]
    refine decide_eq_decide.mpr ⟨fun h => .inl (by omega), fun h => ?_⟩
    rcases h with h | h
    · omega
    · exact absurd h.1 q
theorem leP_by {a b : D} {x y : PyData} (ha : toPy a = some x) (hb : toPy b = some y) : leP a b = !PySem.W.dataLt y x := by
  show (!PySem.W.dataLt (pyD b) (pyD a)) = _
  unfold pyD
  rw [ha, hb]
  rfl
theorem leP_lw (a b : List Nat) : leP (lwD a) (lwD b) = decide (lle a b) := by
  rw [leP_by (toPy_lw a) (toPy_lw b), dataLt_lw, not_llt]
theorem leP_w {a b : List Nat} (h : a.length = b.length) : leP (wD a) (wD b) = decide (lle a b) := by
  rw [leP_by (toPy_w a) (toPy_w b), dataLt_w, ← not_llt]
  congr 1
  refine decide_eq_decide.mpr ⟨fun q => .inr ⟨h.symm, q⟩, fun q => ?_⟩
  rcases q with q | q
  · omega
  · exact q.2
def lleB (a b : List Nat) : Bool := decide (lle a b)
def sortW (ws : List (List Nat)) : List (List Nat) := ws.mergeSort lleB
theorem lleB_trans (a b c : List Nat) (h1 : lleB a b = true) (h2 : lleB b c = true) : lleB a c = true := decide_eq_true (lle_trans (of_decide_eq_true h1) (of_decide_eq_true h2))
theorem lleB_total (a b : List Nat) : (lleB a b || lleB b a) = true := by
  rw [Bool.or_eq_true]
  rcases lle_total a b with h | h
  · exact .inl (decide_eq_true h)
  · exact .inr (decide_eq_true h)
theorem sortW_pw (ws : List (List Nat)) : (sortW ws).Pairwise lle := by
  have := List.pairwise_mergeSort lleB_trans lleB_total ws
  exact this.imp fun h => of_decide_eq_true h
theorem sortW_mem {ws : List (List Nat)} {w : List Nat} : w ∈ sortW ws ↔ w ∈ ws := List.mem_mergeSort
theorem toPyL_mapW {α : Type} {f : α → D} {g : α → PyData} (h : ∀ x, toPy (f x) = some (g x)) : ∀ l : List α, toPyL (l.map f) = some (l.map g)
  | [] => rfl
  | x :: l => by
    show (match toPy (f x) with
      | some y => (toPyL (l.map f)).map (y :: ·)
      | none => none) = _
    rw [h, toPyL_mapW h l]; rfl
theorem intsD_tup {l : List D} (h : l ≠ []) (h2 : ∀ d ∈ l, ∃ t, d = .tup t) : intsD l = none := by
  cases l with
  | nil => exact absurd rfl h
  | cons d l =>
    obtain ⟨t, rfl⟩ := h2 d List.mem_cons_self
    rfl
theorem sort_by {α : Type} {f : α → D} {g : α → PyData} {r : α → α → Bool} {l : List α} (h : ∀ x, toPy (f x) = some (g x)) (ht : ∀ x, ∃ t, f x = .tup t) (hg : ∀ x, isTup (g x) = true ∧ (g x).depth ≤ 64) (ha : ∀ x y, PySem.W.alike (g x) (g y) = true) (h1 : (∀ x ∈ l, isTup1 (g x) = true) ∨ l.length ≤ 1) (hr : ∀ x ∈ l, ∀ y ∈ l, leP (f x) (f y) = r x y) (hl : l.length ≤ 16000000) :
    biD .sorted [.lst (l.map f)] = some (.fr (.lst ((l.mergeSort r).map f))) := by
  have e : sortD (l.map f) = some ((l.mergeSort r).map f) := by
    cases l with
    | nil => simp [sortD, intsD]
    | cons x0 l0 =>
      generalize hL : x0 :: l0 = l at *
      have ne : l.map f ≠ [] := by rw [← hL]; simp
      unfold sortD
      rw [intsD_tup ne fun d hd => by
        obtain ⟨x, _, rfl⟩ := List.mem_map.mp hd
        exact ht x]
      show sortT (l.map f) = _
      unfold sortT
      rw [toPyL_mapW h]
      have ok : sortOk (l.map g) = true := by
        unfold sortOk
        rw [Bool.and_eq_true, Bool.and_eq_true, Bool.and_eq_true]
        refine ⟨⟨⟨?_, ?_⟩, ?_⟩, ?_⟩
        · rw [List.all_eq_true]
          intro d hd
          rw [List.all_eq_true]
          intro d' hd'
          obtain ⟨x, _, rfl⟩ := List.mem_map.mp hd
          obtain ⟨y, _, rfl⟩ := List.mem_map.mp hd'
          exact ha x y
        · rw [List.all_eq_true]
          intro d hd
          obtain ⟨x, _, rfl⟩ := List.mem_map.mp hd
          rw [(hg x).1, decide_eq_true (hg x).2]; rfl
        · rw [List.length_map, sizeLine_eq]; exact decide_eq_true (by omega)
        · rw [Bool.or_eq_true]
          rcases h1 with h1 | h1
          · left
            rw [List.all_eq_true]
            intro d hd
            obtain ⟨x, hx, rfl⟩ := List.mem_map.mp hd
            exact h1 x hx
          · right
            rw [List.length_map]; exact decide_eq_true h1
      show (if sortOk (l.map g) = true then some ((l.map f).mergeSort leP) else none) = _
      rw [if_pos ok, List.map_mergeSort fun a ha b hb => (hr a ha b hb).symm]
  show (sortD (l.map f)).bind (fun x => some (PR.fr (.lst x))) = _
  rw [e]; rfl
theorem dep_nP : ∀ w : List Nat, PyData.depthAll (nP w) ≤ 1 := fun w => Enc.nat.dpL w
theorem sort_lw (ws : List (List Nat)) (hl : ws.length ≤ 16000000) : biD .sorted [.lst (ws.map lwD)] = some (.fr (.lst ((sortW ws).map lwD))) :=
  sort_by toPy_lw (fun x => ⟨_, rfl⟩) (fun x => ⟨rfl, by have := dep_nP x; simp only [lwP, PyData.depth, PyData.depthAll]; omega⟩) (fun x y => by
    show (true && (PySem.W.alikeAll (nP x) (nP y) && true)) = true
    rw [alike_nP]; rfl) (.inl fun _ _ => rfl) (fun x _ y _ => leP_lw x y) hl
theorem sort_w {n : Nat} (ws : List (List Nat)) (hl : ws.length ≤ 16000000) (hn : ∀ w ∈ ws, w.length = n) (h0 : 0 < n ∨ ws.length ≤ 1) : biD .sorted [.lst (ws.map wD)] = some (.fr (.lst ((sortW ws).map wD))) :=
  sort_by toPy_w (fun x => ⟨_, rfl⟩) (fun x => ⟨rfl, by have := dep_nP x; simp only [wP, PyData.depth]; omega⟩) (fun x y => alike_nP x y) (by
    rcases h0 with h0 | h0
    · refine .inl fun x hx => ?_
      have := hn x hx
      cases x with
      | nil => simp at this; omega
      | cons a x => rfl
    · exact .inr h0) (fun x hx y hy => leP_w ((hn x hx).trans (hn y hy).symm)) hl
/-- the head is the least -/
theorem sortW_head {ws : List (List Nat)} {w : List Nat} {r : List (List Nat)} (h : sortW ws = w :: r) : w ∈ ws ∧ ∀ v ∈ ws, lle w v := by
  have p := sortW_pw ws
  rw [h, List.pairwise_cons] at p
  refine ⟨sortW_mem.mp (by rw [h]; simp), fun v hv => ?_⟩
  have := sortW_mem.mpr hv
  rw [h] at this
  rcases List.mem_cons.mp this with rfl | q
  · exact .inl rfl
  · exact p.1 v q
end Ev
namespace Ev
open PySem
/-! pairs of a number and a walk -/
theorem lex_tri : ∀ a b : List Nat, a = b ∨ lexLt a b ∨ lexLt b a
  | [], [] => .inl rfl
  | [], _ :: _ => .inr (.inl trivial)
  | _ :: _, [] => .inr (.inr trivial)
  | a :: as, b :: bs => by
    rcases Nat.lt_trichotomy a b with q | q | q
    · exact .inr (.inl (.inl q))
    · subst q
      rcases lex_tri as bs with r | r | r
      · exact .inl (by rw [r])
      · exact .inr (.inl (.inr ⟨rfl, r⟩))
      · exact .inr (.inr (.inr ⟨rfl, r⟩))
    · exact .inr (.inr (.inl q))
abbrev NW := Nat × List Nat
def plt (a b : NW) : Prop := a.1 < b.1 ∨ (a.1 = b.1 ∧ lexLt a.2 b.2)
instance decPlt (a b : NW) : Decidable (plt a b) := by unfold plt; infer_instance
theorem plt_trans {a b c : NW} (h1 : plt a b) (h2 : plt b c) : plt a c := by
  rcases h1 with h1 | ⟨e1, h1⟩ <;> rcases h2 with h2 | ⟨e2, h2⟩
  · exact .inl (by omega)
  · exact .inl (by omega)
  · exact .inl (by omega)
  · exact .inr ⟨by omega, lexLt_trans h1 h2⟩
theorem plt_irrefl (a : NW) : ¬ plt a a := fun h => by
  rcases h with h | ⟨_, h⟩
  · exact Nat.lt_irrefl _ h
  · exact lexLt_irrefl _ h
theorem plt_tri (a b : NW) : a = b ∨ plt a b ∨ plt b a := by
  rcases Nat.lt_trichotomy a.1 b.1 with q | q | q
  · exact .inr (.inl (.inl q))
  · rcases lex_tri a.2 b.2 with r | r | r
    · exact .inl (Prod.ext q r)
    · exact .inr (.inl (.inr ⟨q, r⟩))
    · exact .inr (.inr (.inr ⟨q.symm, r⟩))
  · exact .inr (.inr (.inl q))
def pleB (a b : NW) : Bool := !decide (plt b a)
theorem pleB_iff {a b : NW} : pleB a b = true ↔ ¬ plt b a := by unfold pleB; simp
theorem pleB_trans (a b c : NW) (h1 : pleB a b = true) (h2 : pleB b c = true) : pleB a c = true := by
  rw [pleB_iff] at *
  intro q
  rcases plt_tri a b with rfl | r | r
  · exact h2 q
  · exact h2 (plt_trans q r)
  · exact h1 r
theorem pleB_total (a b : NW) : (pleB a b || pleB b a) = true := by
  rw [Bool.or_eq_true, pleB_iff, pleB_iff]
  rcases plt_tri a b with rfl | r | r
  · exact .inl (plt_irrefl _)
  · exact .inl fun q => plt_irrefl _ (plt_trans r q)
  · exact .inr fun q => plt_irrefl _ (plt_trans r q)
theorem pleB_anti {a b : NW} (h1 : pleB a b = true) (h2 : pleB b a = true) : a = b := by
  rw [pleB_iff] at *
  rcases plt_tri a b with r | r | r
  · exact r
  · exact absurd r h2
  · exact absurd r h1
def srtP (l : List NW) : List NW := l.mergeSort pleB
theorem srtP_perm (l : List NW) : (srtP l).Perm l := List.mergeSort_perm l pleB
theorem srtP_mem {l : List NW} {z : NW} : z ∈ srtP l ↔ z ∈ l := (srtP_perm l).mem_iff
theorem srtP_eq {l m : List NW} (h : l.Perm m) : srtP l = srtP m :=
  List.Perm.eq_of_pairwise (le := fun a b => pleB a b = true) (fun a b _ _ h1 h2 => pleB_anti h1 h2) (List.pairwise_mergeSort pleB_trans pleB_total l) (List.pairwise_mergeSort pleB_trans pleB_total m) ((srtP_perm l).trans (h.trans (srtP_perm m).symm))
def nwD (z : NW) : D := .tup [.int (z.1 : Nat), wD z.2]
def nwP (z : NW) : PyData := .tuple [.int (z.1 : Nat), wP z.2]
theorem toPy_nw (z : NW) : toPy (nwD z) = some (nwP z) := by
  show (toPyL [.int (z.1 : Nat), wD z.2]).map PyData.tuple = _
  simp only [toPyL, toPy_w]
  rfl
theorem dataLt_nw (a b : NW) : PySem.W.dataLt (nwP a) (nwP b) = decide (plt a b) := by
  have h := PySem.W.dataLt_pair (x := .int (a.1 : Nat)) (x' := .int (b.1 : Nat)) (y := wP a.2) (y' := wP b.2) rfl (alike_nP a.2 b.2)
  rw [eqv_w, dataLt_w, PySem.W.dataLt_int] at h
  refine h.trans ?_
  have e : PyData.eqv (.int (a.1 : Nat)) (.int (b.1 : Nat)) = decide (a.1 = b.1) := Enc.nat.eq a.1 b.1
  rw [e]
  by_cases q : a.1 = b.1
  · rw [if_pos (decide_eq_true q)]
    by_cases r : a.2 = b.2
    · have : a = b := Prod.ext q r
      subst this
      simp [plt_irrefl]
    · rw [if_neg (by simp [r])]
      refine decide_eq_decide.mpr ⟨fun h => .inr ⟨q, h⟩, fun h => ?_⟩
      rcases h with h | h
      · omega
      · exact h.2
  · rw [if_neg (by simp [q])]
    refine decide_eq_decide.mpr ⟨fun h => .inl (by omega), fun h => ?_⟩
    rcases h with h | h
    · omega
    · exact absurd h.1 q
theorem leP_nw (a b : NW) : leP (nwD a) (nwD b) = pleB a b := by
  rw [leP_by (toPy_nw a) (toPy_nw b), dataLt_nw]
  rfl
theorem sort_nw (l : List NW) (hl : l.length ≤ 16000000) : biD .sorted [.lst (l.map nwD)] = some (.fr (.lst ((srtP l).map nwD))) :=
  sort_by toPy_nw (fun x => ⟨_, rfl⟩) (fun x => ⟨rfl, by have := dep_nP x.2; simp only [nwP, wP, PyData.depth, PyData.depthAll]; omega⟩) (fun x y => by
    show (true && (PySem.W.alikeAll (nP x.2) (nP y.2) && true)) = true
    rw [alike_nP]; rfl) (.inl fun _ _ => rfl) (fun x _ y _ => leP_nw x y) hl
end Ev

set_option Elab.async false
set_option linter.all false
set_option autoImplicit false
/-! going on, statement by statement -/
namespace Ev
open PySem
section
variable {tb : Tab} {cf : CF} {env e : Env} {s : S} {ss : Ss} {r : PR} {x : Ex} {p : Ob} {o : Option SO}
theorem isRt_seq (h : evS tb cf s env = some (.nx e)) (h2 : IsRt (evB tb cf ss e) r) : IsRt (evB tb cf (.cons s ss) env) r := by rw [seq_nx h]; exact h2
theorem isEx_seq (h : evS tb cf s env = some (.nx e)) (h2 : IsEx (evB tb cf ss e) x) : IsEx (evB tb cf (.cons s ss) env) x := by rw [seq_nx h]; exact h2
theorem isDr_seq (h : evS tb cf s env = some (.nx e)) (h2 : IsDr (evB tb cf ss e) r p) : IsDr (evB tb cf (.cons s ss) env) r p := by rw [seq_nx h]; exact h2
theorem eqB_seq (h : evS tb cf s env = some (.nx e)) (h2 : evB tb cf ss e = o) : evB tb cf (.cons s ss) env = o := by rw [seq_nx h]; exact h2
theorem outRt_seq (h : evS tb cf s env = some (.nx e)) (h2 : OutRt (evB tb cf ss e) r) : OutRt (evB tb cf (.cons s ss) env) r := by rw [seq_nx h]; exact h2
theorem isRt_clr {own : List Nat} (h : clrE env own = some e) (h2 : IsRt (evB tb cf ss e) r) : IsRt (evB tb cf (.clr own ss) env) r := by rw [evB_clr, h]; exact h2
theorem isRt_frz {own : List Nat} (h : frzE env own = e) (h2 : IsRt (evB tb cf ss e) r) : IsRt (evB tb cf (.frz own ss) env) r := by rw [evB_frz, h]; exact h2
theorem eqB_clr {own : List Nat} (h : clrE env own = some e) (h2 : evB tb cf ss e = o) : evB tb cf (.clr own ss) env = o := by rw [evB_clr, h]; exact h2
theorem eqB_frz {own : List Nat} (h : frzE env own = e) (h2 : evB tb cf ss e = o) : evB tb cf (.frz own ss) env = o := by rw [evB_frz, h]; exact h2
theorem isEx_frz {own : List Nat} (h : frzE env own = e) (h2 : IsEx (evB tb cf ss e) x) : IsEx (evB tb cf (.frz own ss) env) x := by rw [evB_frz, h]; exact h2
theorem isDr_frz {own : List Nat} (h : frzE env own = e) (h2 : IsDr (evB tb cf ss e) r p) : IsDr (evB tb cf (.frz own ss) env) r p := by rw [evB_frz, h]; exact h2
theorem isDr_clr {own : List Nat} (h : clrE env own = some e) (h2 : IsDr (evB tb cf ss e) r p) : IsDr (evB tb cf (.clr own ss) env) r p := by rw [evB_clr, h]; exact h2
theorem outRt_frz {own : List Nat} (h : frzE env own = e) (h2 : OutRt (evB tb cf ss e) r) : OutRt (evB tb cf (.frz own ss) env) r := by rw [evB_frz, h]; exact h2
theorem cond_t {t : E} {a b : Ss} (h : (ev tb cf t).2 env = some (.ok true e)) : evS tb cf (.cond t a b) env = evB tb cf a e := by rw [evS_cond, runM_u, h]; rfl
theorem cond_f {t : E} {a b : Ss} (h : (ev tb cf t).2 env = some (.ok false e)) : evS tb cf (.cond t a b) env = evB tb cf b e := by rw [evS_cond, runM_u, h]; rfl
end
end Ev

set_option Elab.async false
set_option maxRecDepth 100000
namespace Ev.k71
open PySem Ev
abbrev f_is_whole : Nat := 0
abbrev f_common : Nat := 1
abbrev f_lowest : Nat := 2
abbrev f_below : Nat := 3
abbrev f_is_step : Nat := 4
abbrev f_is_system : Nat := 5
abbrev f_check_system : Nat := 6
abbrev f_is_state : Nat := 7
abbrev f_check_state : Nat := 8
abbrev f_reached : Nat := 9
abbrev f_rounds_from : Nat := 10
abbrev f_found_rounds : Nat := 11
abbrev f_simple_rounds : Nat := 12
abbrev f_deeds_in : Nat := 13
abbrev f_share_range : Nat := 14
abbrev f_law_draw : Nat := 15
abbrev f_law_take : Nat := 16
abbrev f_law_system : Nat := 17
abbrev f_law_walk : Nat := 18
abbrev f_law_walked : Nat := 19
abbrev f_law_odd_system : Nat := 20
abbrev f_law_odd_state : Nat := 21
abbrev f_law_rounds : Nat := 22
abbrev f_law_reached : Nat := 23
abbrev f_law_counts : Nat := 24
abbrev f_law_lowest : Nat := 25
abbrev f_law_told : Nat := 26
abbrev f_law : Nat := 27
abbrev c_MOST_STATES : Nat := 0
abbrev c_HANDS : Nat := 1
def b_is_whole : Ss := (.cons (.ret (.and (.isi (.var 0) .int) (.not (.isi (.var 0) .bool))))
 .nil)
def d_is_whole : Def := ⟨1, 1, b_is_whole, none⟩
def i_is_whole : DI := ⟨"is_whole", 4, d_is_whole, ["value"], ["value"]⟩
def lb_common_1 : Ss := (.cons (.par (.cons (.nm 0) (.cons (.nm 1) .nil)) (.cons (.var 1) (.cons (.bin .Mod (.var 0) (.var 1)) .nil)))
 .nil)
def lp_common_2 : S := (.whl (.cmp .NotEq (.var 1) (.int 0)) lb_common_1)
def b_common : Ss := (.cons (.par (.cons (.nm 0) (.cons (.nm 1) .nil)) (.cons (.bi .abs (.cons (.var 0) .nil)) (.cons (.bi .abs (.cons (.var 1) .nil)) .nil)))
 (.cons lp_common_2
 (.clr [1] (.cons (.ret (.var 0))
 .nil))))
def d_common : Def := ⟨2, 2, b_common, none⟩
def i_common : DI := ⟨"common", 5, d_common, ["a", "b"], ["a", "b"]⟩
def b_lowest : Ss := (.cons (.asg (.nm 2) (.call f_common (.cons (.var 0) (.cons (.var 1) .nil))))
 (.frz [2] (.cons (.cond (.cmp .Lt (.var 1) (.int 0)) (.cons (.asg (.nm 2) (.neg (.var 2)))
 .nil) .nil)
 (.cons (.ret (.tup (.cons (.bin .FloorDiv (.var 0) (.var 2)) (.cons (.bin .FloorDiv (.var 1) (.var 2)) .nil))))
 .nil))))
def d_lowest : Def := ⟨2, 3, b_lowest, none⟩
def i_lowest : DI := ⟨"lowest", 6, d_lowest, ["n", "d", "g"], ["n", "d"]⟩
def b_below : Ss := (.cons (.ret (.cmp .Lt (.bin .Mult (.ix (.var 0) (.int 0)) (.ix (.var 1) (.int 1))) (.bin .Mult (.ix (.var 1) (.int 0)) (.ix (.var 0) (.int 1)))))
 .nil)
def d_below : Def := ⟨2, 2, b_below, none⟩
def i_below : DI := ⟨"below", 7, d_below, ["a", "b"], ["a", "b"]⟩
def lc_is_step_1 : E := (.lc (.call f_is_whole (.cons (.var 2) .nil)) (.nm 2) (.sq (.var 0)) (.bl true) [2])
def b_is_step : Ss := (.cons (.cond (.or (.not (.isi (.var 0) .tuple)) (.or (.cmp .NotEq (.bi .len (.cons (.var 0) .nil)) (.int 2)) (.not (.bi .all (.cons lc_is_step_1 .nil))))) (.cons (.ret (.bl false))
 .nil) .nil)
 (.cons (.ret (.and (.chain .LtE .Lt (.int 0) (.ix (.var 0) (.int 0)) (.var 1)) (.chain .LtE .LtE (.int 0) (.ix (.var 0) (.int 1)) (.int 1))))
 .nil))
def d_is_step : Def := ⟨2, 3, b_is_step, none⟩
def i_is_step : DI := ⟨"is_step", 11, d_is_step, ["value", "many", "item"], ["value", "many"]⟩
def lc_is_system_1 : E := (.lc (.and (.isi (.var 1) .tuple) (.cmp .Eq (.bi .len (.cons (.var 1) .nil)) (.int 2))) (.nm 1) (.sq (.var 0)) (.bl true) [1])
def lc_is_system_2 : E := (.lc2 (.call f_is_step (.cons (.var 2) (.cons (.bi .len (.cons (.var 0) .nil)) .nil))) (.nm 1) (.sq (.var 0)) (.bl true) (.nm 2) (.sq (.var 1)) (.bl true) [1, 2] [2])
def b_is_system : Ss := (.cons (.cond (.or (.not (.isi (.var 0) .tuple)) (.not (.chain .LtE .LtE (.int 1) (.bi .len (.cons (.var 0) .nil)) (.cst c_MOST_STATES)))) (.cons (.ret (.bl false))
 .nil) .nil)
 (.cons (.cond (.not (.bi .all (.cons lc_is_system_1 .nil))) (.cons (.ret (.bl false))
 .nil) .nil)
 (.cons (.ret (.bi .all (.cons lc_is_system_2 .nil)))
 .nil)))
def d_is_system : Def := ⟨1, 3, b_is_system, none⟩
def i_is_system : DI := ⟨"is_system", 12, d_is_system, ["value", "steps", "step"], ["value"]⟩
def b_check_system : Ss := (.cons (.cond (.not (.call f_is_system (.cons (.var 0) .nil))) (.cons (.raise 1)
 .nil) .nil)
 .nil)
def d_check_system : Def := ⟨1, 1, b_check_system, none⟩
def i_check_system : DI := ⟨"check_system", 13, d_check_system, ["value"], ["value"]⟩
def b_is_state : Ss := (.cons (.ret (.and (.call f_is_whole (.cons (.var 1) .nil)) (.chain .LtE .Lt (.int 0) (.var 1) (.bi .len (.cons (.var 0) .nil)))))
 .nil)
def d_is_state : Def := ⟨2, 2, b_is_state, none⟩
def i_is_state : DI := ⟨"is_state", 14, d_is_state, ["system", "value"], ["system", "value"]⟩
def b_check_state : Ss := (.cons (.cond (.not (.call f_is_state (.cons (.var 0) (.cons (.var 1) .nil)))) (.cons (.raise 1)
 .nil) .nil)
 .nil)
def d_check_state : Def := ⟨2, 2, b_check_state, none⟩
def i_check_state : DI := ⟨"check_state", 15, d_check_state, ["system", "value"], ["system", "value"]⟩
def lb_reached_1 : Ss := (.cons (.asg (.nm 5) (.ix (.ix (.ix (.var 0) (.ix (.var 2) (.var 3))) (.var 4)) (.int 0)))
 (.cons (.cond (.cmp .NotIn (.var 5) (.var 2)) (.cons (.expr (.mm .append 2 (.cons (.var 5) .nil)))
 .nil) .nil)
 (.clr [4, 5] .nil)))
def lp_reached_2 : S := (.loop (.nm 4) (.sq (.cst c_HANDS)) lb_reached_1)
def lb_reached_3 : Ss := (.cons lp_reached_2
 (.cons (.aug 3 .Add (.int 1))
 (.clr [4, 5] .nil)))
def lp_reached_4 : S := (.whl (.cmp .Lt (.var 3) (.bi .len (.cons (.var 2) .nil))) lb_reached_3)
def b_reached : Ss := (.cons (.par (.cons (.nm 2) (.cons (.nm 3) .nil)) (.cons (.lst (.cons (.var 1) .nil)) (.cons (.int 0) .nil)))
 (.cons lp_reached_4
 (.clr [3] (.cons (.ret (.var 2))
 .nil))))
def d_reached : Def := ⟨2, 6, b_reached, none⟩
def i_reached : DI := ⟨"reached", 17, d_reached, ["system", "state", "found", "place", "hand", "to"], ["system", "state"]⟩
def lb_rounds_from_1 : Ss := (.cons (.asg (.nm 9) (.ix (.ix (.ix (.var 0) (.var 5)) (.var 8)) (.int 0)))
 (.cons (.cond (.cmp .Eq (.var 9) (.var 1)) (.cons (.expr (.mm .append 2 (.cons (.tup (.cons (.var 1) (.cons (.bin .Add (.var 6) (.tup (.cons (.var 8) .nil))) .nil))) .nil)))
 .nil) (.cons (.cond (.and (.cmp .Gt (.var 9) (.var 1)) (.cmp .NotIn (.var 9) (.var 7))) (.cons (.expr (.mm .append 4 (.cons (.tup (.cons (.var 9) (.cons (.bin .Add (.var 6) (.tup (.cons (.var 8) .nil))) (.cons (.bin .Add (.var 7) (.tup (.cons (.var 9) .nil))) .nil)))) .nil)))
 .nil) .nil)
 .nil))
 (.clr [8, 9] .nil)))
def lp_rounds_from_2 : S := (.loop (.nm 8) (.sq (.cst c_HANDS)) lb_rounds_from_1)
def lb_rounds_from_3 : Ss := (.cons lp_rounds_from_2
 (.clr [5, 6, 7, 8, 9] .nil))
def lp_rounds_from_4 : S := (.loop (.tp (.cons (.nm 5) (.cons (.nm 6) (.cons (.nm 7) .nil)))) (.sq (.var 3)) lb_rounds_from_3)
def lb_rounds_from_5 : Ss := (.cons (.asg (.nm 4) (.lst .nil))
 (.cons lp_rounds_from_4
 (.cons (.asg (.nm 3) (.bi .list (.cons (.var 4) .nil)))
 (.frz [3] (.clr [4, 5, 6, 7, 8, 9] .nil)))))
def lp_rounds_from_6 : S := (.whl (.cmp .Gt (.bi .len (.cons (.var 3) .nil)) (.int 0)) lb_rounds_from_5)
def b_rounds_from : Ss := (.cons (.par (.cons (.nm 2) (.cons (.nm 3) .nil)) (.cons (.lst .nil) (.cons (.lst (.cons (.tup (.cons (.var 1) (.cons (.tup .nil) (.cons (.tup (.cons (.var 1) .nil)) .nil)))) .nil)) .nil)))
 (.frz [3] (.cons lp_rounds_from_6
 (.clr [3] (.cons (.ret (.var 2))
 .nil)))))
def d_rounds_from : Def := ⟨2, 10, b_rounds_from, none⟩
def i_rounds_from : DI := ⟨"rounds_from", 19, d_rounds_from, ["system", "state", "found", "layer", "longer", "here", "walk", "met", "hand", "to"], ["system", "state"]⟩
def lb_found_rounds_1 : Ss := (.cons (.expr (.mm .extend 1 (.cons (.call f_rounds_from (.cons (.var 0) (.cons (.var 2) .nil))) .nil)))
 (.clr [2] .nil))
def lp_found_rounds_2 : S := (.loop (.nm 2) (.rng1 (.bi .len (.cons (.var 0) .nil))) lb_found_rounds_1)
def b_found_rounds : Ss := (.cons (.asg (.nm 1) (.lst .nil))
 (.cons lp_found_rounds_2
 (.cons (.ret (.bi .sorted (.cons (.var 1) .nil)))
 .nil)))
def d_found_rounds : Def := ⟨1, 3, b_found_rounds, none⟩
def i_found_rounds : DI := ⟨"found_rounds", 20, d_found_rounds, ["system", "found", "state"], ["system"]⟩
def b_simple_rounds : Ss := (.cons (.expr (.call f_check_system (.cons (.var 0) .nil)))
 (.cons (.ret (.bi .tuple (.cons (.call f_found_rounds (.cons (.var 0) .nil)) .nil)))
 .nil))
def d_simple_rounds : Def := ⟨1, 1, b_simple_rounds, none⟩
def i_simple_rounds : DI := ⟨"simple_rounds", 21, d_simple_rounds, ["system"], ["system"]⟩
def lb_deeds_in_1 : Ss := (.cons (.asg (.tp (.cons (.nm 1) (.cons (.nm 5) .nil))) (.ix (.ix (.var 0) (.var 1)) (.var 4)))
 (.cons (.augix 3 .Add (.var 4) (.var 5))
 (.clr [4, 5] .nil)))
def lp_deeds_in_2 : S := (.loop (.nm 4) (.sq (.var 2)) lb_deeds_in_1)
def b_deeds_in : Ss := (.cons (.asg (.nm 3) (.lst (.cons (.int 0) (.cons (.int 0) .nil))))
 (.cons lp_deeds_in_2
 (.clr [1] (.cons (.ret (.var 3))
 .nil))))
def d_deeds_in : Def := ⟨3, 6, b_deeds_in, none⟩
def i_deeds_in : DI := ⟨"deeds_in", 22, d_deeds_in, ["system", "state", "walk", "counts", "hand", "done"], ["system", "state", "walk"]⟩
def lb_share_range_1 : Ss := (.cons (.asg (.tp (.cons (.nm 6) (.cons (.nm 7) .nil))) (.call f_deeds_in (.cons (.var 0) (.cons (.var 4) (.cons (.var 5) .nil)))))
 (.cons (.cond (.and (.cmp .In (.var 4) (.var 2)) (.cmp .Gt (.bin .Add (.var 6) (.var 7)) (.int 0))) (.cons (.expr (.mm .append 3 (.cons (.call f_lowest (.cons (.var 6) (.cons (.bin .Add (.var 6) (.var 7)) .nil))) .nil)))
 .nil) .nil)
 (.clr [4, 5, 6, 7] .nil)))
def lp_share_range_2 : S := (.loop (.tp (.cons (.nm 4) (.cons (.nm 5) .nil))) (.sq (.call f_found_rounds (.cons (.var 0) .nil))) lb_share_range_1)
def lb_share_range_3 : Ss := (.cons (.asg (.nm 8) (.ite (.call f_below (.cons (.var 10) (.cons (.var 8) .nil))) (.var 10) (.var 8)))
 (.cons (.asg (.nm 9) (.ite (.call f_below (.cons (.var 9) (.cons (.var 10) .nil))) (.var 10) (.var 9)))
 (.clr [10] .nil)))
def lp_share_range_4 : S := (.loop (.nm 10) (.sq (.var 3)) lb_share_range_3)
def b_share_range : Ss := (.cons (.expr (.call f_check_system (.cons (.var 0) .nil)))
 (.cons (.expr (.call f_check_state (.cons (.var 0) (.cons (.var 1) .nil))))
 (.cons (.asg (.nm 2) (.call f_reached (.cons (.var 0) (.cons (.var 1) .nil))))
 (.frz [2] (.cons (.asg (.nm 3) (.lst .nil))
 (.cons lp_share_range_2
 (.cons (.cond (.cmp .Eq (.bi .len (.cons (.var 3) .nil)) (.int 0)) (.cons (.ret .non)
 .nil) .nil)
 (.cons (.par (.cons (.nm 8) (.cons (.nm 9) .nil)) (.cons (.ix (.var 3) (.int 0)) (.cons (.ix (.var 3) (.int 0)) .nil)))
 (.cons lp_share_range_4
 (.cons (.ret (.tup (.cons (.var 8) (.cons (.var 9) .nil))))
 .nil))))))))))
def d_share_range : Def := ⟨2, 11, b_share_range, none⟩
def i_share_range : DI := ⟨"share_range", 23, d_share_range, ["system", "state", "good", "shares", "start", "walk", "first", "second", "least", "most", "share"], ["system", "state"]⟩
def lb_law_draw_1 : Ss := (.cons (.asg (.nm 1) (.bin .Mod (.bi .int (.cons (.bin .Add (.bin .Add (.bin .Mult (.var 1) (.int 48271)) (.bin .Mod (.bi .abs (.cons (.bi .int (.cons (.var 2) .nil)) .nil)) (.int 65521))) (.int 1)) .nil)) (.int 2147483647)))
 (.clr [2] .nil))
def lp_law_draw_2 : S := (.loop (.nm 2) (.sq (.var 0)) lb_law_draw_1)
def lc_law_draw_3 : E := (.lc (.bi .abs (.cons (.bi .int (.cons (.var 2) .nil)) .nil)) (.nm 2) (.sq (.var 0)) (.bl true) [2])
def b_law_draw : Ss := (.cons (.asg (.nm 1) (.int 7))
 (.cons lp_law_draw_2
 (.cons (.ret (.lst (.cons lc_law_draw_3 (.cons (.neg (.int 1)) (.cons (.int 0) (.cons (.var 1) .nil))))))
 .nil)))
def d_law_draw : Def := ⟨1, 3, b_law_draw, none⟩
def i_law_draw : DI := ⟨"_law_draw", 25, d_law_draw, ["script", "seed", "cell"], ["script"]⟩
def b_law_take : Ss := (.cons (.cond (.cmp .Eq (.ix (.var 0) (.int 2)) (.int 0)) (.cons (.setix 0 (.int 1) (.bin .Add (.ix (.var 0) (.int 1)) (.int 1)))
 (.cons (.cond (.cmp .Lt (.ix (.var 0) (.int 1)) (.bi .len (.cons (.ix (.var 0) (.int 0)) .nil))) (.cons (.setix 0 (.int 2) (.ix (.ix (.var 0) (.int 0)) (.ix (.var 0) (.int 1))))
 .nil) .nil)
 (.cons (.cond (.cmp .Eq (.ix (.var 0) (.int 2)) (.int 0)) (.cons (.setix 0 (.int 3) (.bin .Mod (.bi .int (.cons (.bin .Add (.bin .Mult (.ix (.var 0) (.int 3)) (.int 48271)) (.int 11)) .nil)) (.int 2147483647)))
 (.cons (.setix 0 (.int 2) (.ix (.var 0) (.int 3)))
 .nil)) .nil)
 .nil))) .nil)
 (.cons (.asg (.nm 2) (.bin .Mod (.bi .int (.cons (.ix (.var 0) (.int 2)) .nil)) (.var 1)))
 (.cons (.setix 0 (.int 2) (.bin .FloorDiv (.ix (.var 0) (.int 2)) (.var 1)))
 (.cons (.ret (.var 2))
 .nil))))
def d_law_take : Def := ⟨2, 3, b_law_take, some 0⟩
def i_law_take : DI := ⟨"_law_take", 26, d_law_take, ["draw", "many", "found"], ["draw", "many"]⟩
def lb_law_system_1 : Ss := (.cons (.asg (.nm 8) (.ite (.and (.cmp .Eq (.var 3) (.int 1)) (.cmp .Eq (.call f_law_take (.cons (.var 0) (.cons (.int 2) .nil))) (.int 0))) (.var 5) (.call f_law_take (.cons (.var 0) (.cons (.var 2) .nil)))))
 (.cons (.asg (.nm 9) (.bi .int (.cons (.cmp .Lt (.call f_law_take (.cons (.var 0) (.cons (.int 5) .nil))) (.ix (.lst (.cons (.int 2) (.cons (.int 1) (.cons (.int 4) (.cons (.int 1) .nil))))) (.var 3))) .nil)))
 (.cons (.expr (.mm .append 6 (.cons (.tup (.cons (.var 8) (.cons (.var 9) .nil))) .nil)))
 (.clr [7, 8, 9] .nil))))
def lp_law_system_2 : S := (.loop (.nm 7) (.rng1 (.int 2)) lb_law_system_1)
def lb_law_system_3 : Ss := (.cons (.asg (.nm 6) (.lst .nil))
 (.cons lp_law_system_2
 (.cons (.expr (.mm .append 4 (.cons (.bi .tuple (.cons (.var 6) .nil)) .nil)))
 (.clr [5, 6, 7, 8, 9] .nil))))
def lp_law_system_4 : S := (.loop (.nm 5) (.rng1 (.var 2)) lb_law_system_3)
def b_law_system : Ss := (.cons (.par (.cons (.nm 2) (.cons (.nm 3) .nil)) (.cons (.bin .Add (.int 1) (.call f_law_take (.cons (.var 0) (.cons (.var 1) .nil)))) (.cons (.call f_law_take (.cons (.var 0) (.cons (.int 4) .nil))) .nil)))
 (.cons (.asg (.nm 4) (.lst .nil))
 (.cons lp_law_system_4
 (.cons (.ret (.bi .tuple (.cons (.var 4) .nil)))
 .nil))))
def d_law_system : Def := ⟨2, 10, b_law_system, some 0⟩
def i_law_system : DI := ⟨"_law_system", 27, d_law_system, ["draw", "most", "many", "kind", "found", "state", "steps", "hand", "to", "done"], ["draw", "most"]⟩
def lc_law_walk_1 : E := (.lc (.call f_law_take (.cons (.var 0) (.cons (.int 2) .nil))) (.nm 2) (.rng1 (.call f_law_take (.cons (.var 0) (.cons (.bin .Add (.var 1) (.int 1)) .nil)))) (.bl true) [2])
def b_law_walk : Ss := (.cons (.ret (.bi .tuple (.cons lc_law_walk_1 .nil)))
 .nil)
def d_law_walk : Def := ⟨2, 3, b_law_walk, some 0⟩
def i_law_walk : DI := ⟨"_law_walk", 28, d_law_walk, ["draw", "most", "k"], ["draw", "most"]⟩
def lb_law_walked_1 : Ss := (.cons (.asg (.tp (.cons (.nm 1) (.cons (.nm 5) .nil))) (.ix (.ix (.var 0) (.var 1)) (.var 4)))
 (.cons (.asg (.nm 3) (.bin .Add (.var 3) (.ite (.cmp .Eq (.var 5) (.int 1)) (.tup (.cons (.var 4) .nil)) (.tup .nil))))
 (.clr [4, 5] .nil)))
def lp_law_walked_2 : S := (.loop (.nm 4) (.sq (.var 2)) lb_law_walked_1)
def b_law_walked : Ss := (.cons (.asg (.nm 3) (.tup .nil))
 (.cons lp_law_walked_2
 (.cons (.ret (.tup (.cons (.var 1) (.cons (.var 3) .nil))))
 .nil)))
def d_law_walked : Def := ⟨3, 6, b_law_walked, none⟩
def i_law_walked : DI := ⟨"_law_walked", 29, d_law_walked, ["system", "state", "walk", "row", "hand", "done"], ["system", "state", "walk"]⟩
def b_law_odd_system : Ss := (.cons (.asg (.nm 1) (.lst (.cons .non (.cons (.tup .nil) (.cons (.int 5) (.cons (.lst (.cons (.tup (.cons (.tup (.cons (.int 0) (.cons (.int 0) .nil))) (.cons (.tup (.cons (.int 0) (.cons (.int 0) .nil))) .nil))) .nil)) (.cons (.tup (.cons (.tup (.cons (.tup (.cons (.int 0) (.cons (.int 0) .nil))) .nil)) .nil)) (.cons (.tup (.cons (.tup (.cons (.tup (.cons (.int 1) (.cons (.int 0) .nil))) (.cons (.tup (.cons (.int 0) (.cons (.int 0) .nil))) .nil))) .nil)) (.cons (.tup (.cons (.tup (.cons (.tup (.cons (.int 0) (.cons (.int 2) .nil))) (.cons (.tup (.cons (.int 0) (.cons (.int 0) .nil))) .nil))) .nil)) (.cons (.tup (.cons (.tup (.cons (.tup (.cons (.int 0) (.cons (.bl true) .nil))) (.cons (.tup (.cons (.int 0) (.cons (.int 0) .nil))) .nil))) .nil)) (.cons (.tup (.cons (.tup (.cons (.tup (.cons (.int 0) (.cons (.int 0) .nil))) (.cons (.tup (.cons (.int 0) (.cons (.int 0) .nil))) (.cons (.tup (.cons (.int 0) (.cons (.int 0) .nil))) .nil)))) .nil)) (.cons (.tup (.cons (.tup (.cons (.tup (.cons (.neg (.int 1)) (.cons (.int 0) .nil))) (.cons (.tup (.cons (.int 0) (.cons (.int 0) .nil))) .nil))) .nil)) .nil))))))))))))
 (.frz [1] (.cons (.ret (.ix (.bin .Add (.var 1) (.lst (.cons (.tup (.cons (.lst (.cons (.tup (.cons (.int 0) (.cons (.int 0) .nil))) (.cons (.tup (.cons (.int 0) (.cons (.int 0) .nil))) .nil))) .nil)) (.cons (.tup (.cons (.tup (.cons (.tup (.cons (.int 0) (.cons (.int 0) .nil))) (.cons (.lst (.cons (.int 0) (.cons (.int 0) .nil))) .nil))) .nil)) (.cons (.bin .Mult (.tup (.cons (.tup (.cons (.tup (.cons (.int 0) (.cons (.int 0) .nil))) (.cons (.tup (.cons (.int 0) (.cons (.int 0) .nil))) .nil))) .nil)) (.int 7)) (.cons (.tup (.cons (.tup (.cons (.tup (.cons (.int 0) .nil)) (.cons (.tup (.cons (.int 0) (.cons (.int 0) .nil))) .nil))) .nil)) (.cons (.tup (.cons .non .nil)) .nil))))))) (.call f_law_take (.cons (.var 0) (.cons (.int 15) .nil)))))
 .nil)))
def d_law_odd_system : Def := ⟨1, 2, b_law_odd_system, some 0⟩
def i_law_odd_system : DI := ⟨"_law_odd_system", 30, d_law_odd_system, ["draw", "odd"], ["draw"]⟩
def b_law_odd_state : Ss := (.cons (.ret (.ix (.lst (.cons .non (.cons (.neg (.int 1)) (.cons (.bi .len (.cons (.var 1) .nil)) (.cons (.bl true) (.cons (.str "0") .nil)))))) (.call f_law_take (.cons (.var 0) (.cons (.int 5) .nil)))))
 .nil)
def d_law_odd_state : Def := ⟨2, 2, b_law_odd_state, some 0⟩
def i_law_odd_state : DI := ⟨"_law_odd_state", 31, d_law_odd_state, ["draw", "system"], ["draw", "system"]⟩
def lb_law_rounds_1 : Ss := (.cons (.asg (.nm 7) (.ix (.ix (.ix (.var 0) (.var 2)) (.var 6)) (.int 0)))
 (.cons (.cond (.cmp .Eq (.var 7) (.var 1)) (.cons (.expr (.mm .append 5 (.cons (.tup (.cons (.var 1) (.cons (.bin .Add (.var 3) (.tup (.cons (.var 6) .nil))) .nil))) .nil)))
 .nil) (.cons (.cond (.and (.cmp .Gt (.var 7) (.var 1)) (.cmp .NotIn (.var 7) (.var 4))) (.cons (.asg (.nm 5) (.bin .Add (.var 5) (.call f_law_rounds (.cons (.var 0) (.cons (.var 1) (.cons (.var 7) (.cons (.bin .Add (.var 3) (.tup (.cons (.var 6) .nil))) (.cons (.bin .Add (.var 4) (.lst (.cons (.var 7) .nil))) .nil))))))))
 .nil) .nil)
 .nil))
 (.clr [6, 7] .nil)))
def lp_law_rounds_2 : S := (.loop (.nm 6) (.rng1 (.int 2)) lb_law_rounds_1)
def b_law_rounds : Ss := (.cons (.asg (.nm 5) (.lst .nil))
 (.cons lp_law_rounds_2
 (.cons (.ret (.var 5))
 .nil)))
def d_law_rounds : Def := ⟨5, 8, b_law_rounds, none⟩
def i_law_rounds : DI := ⟨"_law_rounds", 32, d_law_rounds, ["system", "start", "here", "walk", "met", "found", "hand", "to"], ["system", "start", "here", "walk", "met"]⟩
def lc_law_reached_1 : E := (.lc (.ix (.ix (.ix (.var 0) (.var 4)) (.int 0)) (.int 0)) (.nm 4) (.sq (.var 2)) (.bl true) [4])
def lc_law_reached_2 : E := (.lc (.ix (.ix (.ix (.var 0) (.var 4)) (.int 1)) (.int 0)) (.nm 4) (.sq (.var 2)) (.bl true) [4])
def lb_law_reached_3 : Ss := (.cons (.asg (.nm 2) (.sset (.bin .Add (.bin .Add (.var 2) lc_law_reached_1) lc_law_reached_2)))
 (.clr [3] .nil))
def lp_law_reached_4 : S := (.loop (.nm 3) (.sq (.var 0)) lb_law_reached_3)
def b_law_reached : Ss := (.cons (.asg (.nm 2) (.lst (.cons (.var 1) .nil)))
 (.cons lp_law_reached_4
 (.cons (.ret (.var 2))
 .nil)))
def d_law_reached : Def := ⟨2, 5, b_law_reached, none⟩
def i_law_reached : DI := ⟨"_law_reached", 33, d_law_reached, ["system", "state", "found", "turn", "p"], ["system", "state"]⟩
def lc_law_counts_1 : E := (.lc (.var 4) (.nm 4) (.sq (.var 3)) (.cmp .Eq (.var 4) (.int 0)) [4])
def b_law_counts : Ss := (.cons (.asg (.nm 3) (.ix (.call f_law_walked (.cons (.var 0) (.cons (.var 1) (.cons (.var 2) .nil)))) (.int 1)))
 (.cons (.ret (.tup (.cons (.bi .len (.cons lc_law_counts_1 .nil)) (.cons (.bi .len (.cons (.var 3) .nil)) .nil))))
 .nil))
def d_law_counts : Def := ⟨3, 5, b_law_counts, none⟩
def i_law_counts : DI := ⟨"_law_counts", 34, d_law_counts, ["system", "state", "walk", "row", "hand"], ["system", "state", "walk"]⟩
def lc_law_lowest_1 : E := (.lc (.var 3) (.nm 3) (.rng2 (.int 1) (.bin .Add (.var 1) (.int 1))) (.and (.cmp .Eq (.bin .Mod (.bi .int (.cons (.var 0) .nil)) (.var 3)) (.int 0)) (.cmp .Eq (.bin .Mod (.bi .int (.cons (.var 1) .nil)) (.var 3)) (.int 0))) [3])
def b_law_lowest : Ss := (.cons (.asg (.nm 2) (.bi .max (.cons lc_law_lowest_1 .nil)))
 (.cons (.ret (.tup (.cons (.bin .FloorDiv (.var 0) (.var 2)) (.cons (.bin .FloorDiv (.var 1) (.var 2)) .nil))))
 .nil))
def d_law_lowest : Def := ⟨2, 4, b_law_lowest, none⟩
def i_law_lowest : DI := ⟨"_law_lowest", 35, d_law_lowest, ["n", "d", "common_v", "k"], ["n", "d"]⟩
def b_law_told : Ss := (.cons (.try1 (.cons (.ret (.ite (.cmp .Eq (.var 0) (.int 0)) (.call f_simple_rounds (.cons (.var 1) .nil)) (.call f_share_range (.cons (.var 1) (.cons (.var 2) .nil)))))
 .nil) 1 (.cons (.ret (.str "<malformed>"))
 .nil))
 .nil)
def d_law_told : Def := ⟨3, 3, b_law_told, none⟩
def i_law_told : DI := ⟨"_law_told", 36, d_law_told, ["which", "system", "state"], ["which", "system", "state"]⟩
def lb_law_1 : Ss := (.cons (.asg (.nm 5) (.bin .Add (.var 5) (.call f_law_rounds (.cons (.var 3) (.cons (.var 6) (.cons (.var 6) (.cons (.tup .nil) (.cons (.lst (.cons (.var 6) .nil)) .nil))))))))
 (.frz [5] (.clr [6] .nil)))
def lp_law_2 : S := (.loop (.nm 6) (.rng1 (.bi .len (.cons (.var 3) .nil))) lb_law_1)
def lc_law_3 : E := (.lc (.call f_law_counts (.cons (.var 3) (.cons (.var 6) (.cons (.var 13) .nil)))) (.tp (.cons (.nm 6) (.cons (.nm 13) .nil))) (.sq (.var 5)) (.cmp .In (.var 6) (.var 7)) [6, 13])
def lc_law_4 : E := (.lc (.tup (.cons (.var 17) (.cons (.var 18) .nil))) (.tp (.cons (.nm 17) (.cons (.nm 18) .nil))) (.sq (.var 8)) (.cmp .Gt (.var 18) (.int 0)) [17, 18])
def lc_law_5 : E := (.lc (.call f_law_lowest (.cons (.var 17) (.cons (.var 18) .nil))) (.tp (.cons (.nm 17) (.cons (.nm 18) .nil))) (.sq (.var 8)) (.bl true) [17, 18])
def lc_law_6 : E := (.lc (.call f_law_lowest (.cons (.var 17) (.cons (.var 18) .nil))) (.tp (.cons (.nm 17) (.cons (.nm 18) .nil))) (.sq (.var 8)) (.bl true) [17, 18])
def lb_law_7 : Ss := (.cons (.expr (.mm .append 14 (.cons (.ix (.ix (.ix (.var 3) (.ix (.var 14) (.neg (.int 1)))) (.var 15)) (.int 0)) .nil)))
 (.clr [15] .nil))
def lp_law_8 : S := (.loop (.nm 15) (.sq (.var 13)) lb_law_7)
def lb_law_9 : Ss := (.cons (.asg (.tp (.cons (.nm 17) (.cons (.nm 18) .nil))) (.ite (.cmp .Eq (.ix (.var 14) (.neg (.int 1))) (.ix (.var 14) (.var 16))) (.call f_law_counts (.cons (.var 3) (.cons (.ix (.var 14) (.var 16)) (.cons (.slL (.var 13) (.var 16)) .nil)))) (.tup (.cons (.int 0) (.cons (.int 0) .nil)))))
 (.cons (.cond (.cmp .Gt (.var 18) (.int 0)) (.cons (.asg (.nm 8) (.bin .Add (.var 8) (.lst (.cons (.tup (.cons (.var 17) (.cons (.var 18) .nil))) .nil))))
 (.frz [8] .nil)) .nil)
 (.clr [16, 17, 18] .nil)))
def lp_law_10 : S := (.loop (.nm 16) (.rng1 (.bi .len (.cons (.var 14) .nil))) lb_law_9)
def lb_law_11 : Ss := (.cons (.par (.cons (.nm 13) (.cons (.nm 14) .nil)) (.cons (.call f_law_walk (.cons (.var 1) (.cons (.int 30) .nil))) (.cons (.lst (.cons (.var 4) .nil)) .nil)))
 (.cons lp_law_8
 (.cons lp_law_10
 (.clr [12, 13, 14, 15, 16, 17, 18] .nil))))
def lp_law_12 : S := (.loop (.nm 12) (.rng1 (.int 6)) lb_law_11)
def lb_law_13 : Ss := (.cons (.cond (.or (.cmp .Lt (.bin .Mult (.var 17) (.ix (.var 10) (.int 1))) (.bin .Mult (.ix (.var 10) (.int 0)) (.var 18))) (.cmp .Gt (.bin .Mult (.var 17) (.ix (.var 11) (.int 1))) (.bin .Mult (.ix (.var 11) (.int 0)) (.var 18)))) (.cons (.ret (.bl false))
 .nil) .nil)
 (.clr [17, 18] .nil))
def lp_law_14 : S := (.loop (.tp (.cons (.nm 17) (.cons (.nm 18) .nil))) (.sq (.var 8)) lb_law_13)
def lb_law_15 : Ss := (.cons (.asg (.nm 3) (.call f_law_system (.cons (.var 1) (.cons (.int 6) .nil))))
 (.cons (.par (.cons (.nm 4) (.cons (.nm 5) .nil)) (.cons (.call f_law_take (.cons (.var 1) (.cons (.bi .len (.cons (.var 3) .nil)) .nil))) (.cons (.lst .nil) .nil)))
 (.frz [5] (.cons lp_law_2
 (.cons (.cond (.cmp .NotEq (.bi .repr (.cons (.call f_simple_rounds (.cons (.var 3) .nil)) .nil)) (.bi .repr (.cons (.bi .tuple (.cons (.bi .sorted (.cons (.var 5) .nil)) .nil)) .nil))) (.cons (.ret (.bl false))
 .nil) .nil)
 (.cons (.asg (.nm 7) (.call f_law_reached (.cons (.var 3) (.cons (.var 4) .nil))))
 (.frz [7] (.cons (.asg (.nm 8) lc_law_3)
 (.frz [8] (.cons (.asg (.nm 8) lc_law_4)
 (.frz [8] (.cons (.asg (.nm 9) (.call f_share_range (.cons (.var 3) (.cons (.var 4) .nil))))
 (.cons (.cond (.cmp .NotEq (.cmp .Is (.var 9) .non) (.cmp .Eq (.var 8) (.lst .nil))) (.cons (.ret (.bl false))
 .nil) .nil)
 (.cons (.cond (.cmp .IsNot (.var 9) .non) (.cons (.asg (.tp (.cons (.nm 10) (.cons (.nm 11) .nil))) (.var 9))
 (.cons (.cond (.or (.cmp .NotIn (.var 10) lc_law_6) (.cmp .NotIn (.var 11) lc_law_5)) (.cons (.ret (.bl false))
 .nil) .nil)
 (.cons lp_law_12
 (.cons lp_law_14
 (.clr [8, 10, 11, 12, 13, 14, 15, 16, 17, 18] .nil))))) .nil)
 (.clr [2, 4, 5, 6, 7, 8, 9, 10, 11, 12, 13, 14, 15, 16, 17, 18] .nil)))))))))))))))
def lp_law_16 : S := (.loop (.nm 2) (.rng1 (.int 4)) lb_law_15)
def b_law : Ss := (.cons (.asg (.nm 1) (.call f_law_draw (.cons (.var 0) .nil)))
 (.cons lp_law_16
 (.cons (.par (.cons (.nm 19) (.cons (.nm 20) .nil)) (.cons (.call f_law_odd_system (.cons (.var 1) .nil)) (.cons (.call f_law_odd_state (.cons (.var 1) (.cons (.var 3) .nil))) .nil)))
 (.frz [19, 20] (.cons (.ret (.cmp .Eq (.lst (.cons (.call f_law_told (.cons (.int 0) (.cons (.var 19) (.cons (.int 0) .nil)))) (.cons (.call f_law_told (.cons (.int 1) (.cons (.var 19) (.cons (.int 0) .nil)))) (.cons (.call f_law_told (.cons (.int 1) (.cons (.var 3) (.cons (.var 20) .nil)))) .nil)))) (.bin .Mult (.lst (.cons (.str "<malformed>") .nil)) (.int 3))))
 .nil)))))
def d_law : Def := ⟨1, 21, b_law, none⟩
def i_law : DI := ⟨"law", 37, d_law, ["script", "draw", "turn", "system", "state", "rows", "start", "reach", "shares", "told", "least", "most", "again", "walk", "path", "hand", "i", "first", "whole", "odd", "bad"], ["script"]⟩
def L : Lw := ⟨[i_is_whole, i_common, i_lowest, i_below, i_is_step, i_is_system, i_check_system, i_is_state, i_check_state, i_reached, i_rounds_from, i_found_rounds, i_simple_rounds, i_deeds_in, i_share_range, i_law_draw, i_law_take, i_law_system, i_law_walk, i_law_walked, i_law_odd_system, i_law_odd_state, i_law_rounds, i_law_reached, i_law_counts, i_law_lowest, i_law_told, i_law], [("MOST_STATES", .int 6), ("HANDS", .tup [.int 0, .int 1])], ["Fault", "Malformed"]⟩
abbrev tb : Tab := L.tab
@[simp] theorem cst_MOST_STATES : L.tab.cst c_MOST_STATES = .int 6 := rfl
@[simp] theorem cst_HANDS : L.tab.cst c_HANDS = .tup [.int 0, .int 1] := rfl
theorem fn_is_whole : L.tab.fns f_is_whole = some d_is_whole := rfl
@[simp] theorem cm_is_whole {cf : CF} (a0 : R) : callM L.tab cf f_is_whole [a0] = bnd (frzL [a0]) (callV cf f_is_whole) := callM_nb (d := d_is_whole) rfl rfl rfl
theorem run_is_whole {k : Nat} {a0 : D} {r : PR} (h : IsRt (evB L.tab (callF L.tab k) b_is_whole [.v a0]) r) : callV (callF L.tab (k+1)) f_is_whole [a0] = ret r.r := callV_rt (d := d_is_whole) rfl rfl (by decide) h
theorem rex_is_whole {k : Nat} {a0 : D} {x : Ex} (h : IsEx (evB L.tab (callF L.tab k) b_is_whole [.v a0]) x) : callV (callF L.tab (k+1)) f_is_whole [a0] = rais x := callV_ex (d := d_is_whole) rfl rfl (by decide) h
theorem fn_common : L.tab.fns f_common = some d_common := rfl
@[simp] theorem cm_common {cf : CF} (a0 a1 : R) : callM L.tab cf f_common [a0, a1] = bnd (frzL [a0, a1]) (callV cf f_common) := callM_nb (d := d_common) rfl rfl rfl
theorem run_common {k : Nat} {a0 a1 : D} {r : PR} (h : IsRt (evB L.tab (callF L.tab k) b_common [.v a0, .v a1]) r) : callV (callF L.tab (k+1)) f_common [a0, a1] = ret r.r := callV_rt (d := d_common) rfl rfl (by decide) h
theorem rex_common {k : Nat} {a0 a1 : D} {x : Ex} (h : IsEx (evB L.tab (callF L.tab k) b_common [.v a0, .v a1]) x) : callV (callF L.tab (k+1)) f_common [a0, a1] = rais x := callV_ex (d := d_common) rfl rfl (by decide) h
theorem fn_lowest : L.tab.fns f_lowest = some d_lowest := rfl
@[simp] theorem cm_lowest {cf : CF} (a0 a1 : R) : callM L.tab cf f_lowest [a0, a1] = bnd (frzL [a0, a1]) (callV cf f_lowest) := callM_nb (d := d_lowest) rfl rfl rfl
theorem run_lowest {k : Nat} {a0 a1 : D} {r : PR} (h : IsRt (evB L.tab (callF L.tab k) b_lowest [.v a0, .v a1, .un]) r) : callV (callF L.tab (k+1)) f_lowest [a0, a1] = ret r.r := callV_rt (d := d_lowest) rfl rfl (by decide) h
theorem rex_lowest {k : Nat} {a0 a1 : D} {x : Ex} (h : IsEx (evB L.tab (callF L.tab k) b_lowest [.v a0, .v a1, .un]) x) : callV (callF L.tab (k+1)) f_lowest [a0, a1] = rais x := callV_ex (d := d_lowest) rfl rfl (by decide) h
theorem fn_below : L.tab.fns f_below = some d_below := rfl
@[simp] theorem cm_below {cf : CF} (a0 a1 : R) : callM L.tab cf f_below [a0, a1] = bnd (frzL [a0, a1]) (callV cf f_below) := callM_nb (d := d_below) rfl rfl rfl
theorem run_below {k : Nat} {a0 a1 : D} {r : PR} (h : IsRt (evB L.tab (callF L.tab k) b_below [.v a0, .v a1]) r) : callV (callF L.tab (k+1)) f_below [a0, a1] = ret r.r := callV_rt (d := d_below) rfl rfl (by decide) h
theorem rex_below {k : Nat} {a0 a1 : D} {x : Ex} (h : IsEx (evB L.tab (callF L.tab k) b_below [.v a0, .v a1]) x) : callV (callF L.tab (k+1)) f_below [a0, a1] = rais x := callV_ex (d := d_below) rfl rfl (by decide) h
theorem fn_is_step : L.tab.fns f_is_step = some d_is_step := rfl
@[simp] theorem cm_is_step {cf : CF} (a0 a1 : R) : callM L.tab cf f_is_step [a0, a1] = bnd (frzL [a0, a1]) (callV cf f_is_step) := callM_nb (d := d_is_step) rfl rfl rfl
theorem run_is_step {k : Nat} {a0 a1 : D} {r : PR} (h : IsRt (evB L.tab (callF L.tab k) b_is_step [.v a0, .v a1, .un]) r) : callV (callF L.tab (k+1)) f_is_step [a0, a1] = ret r.r := callV_rt (d := d_is_step) rfl rfl (by decide) h
theorem rex_is_step {k : Nat} {a0 a1 : D} {x : Ex} (h : IsEx (evB L.tab (callF L.tab k) b_is_step [.v a0, .v a1, .un]) x) : callV (callF L.tab (k+1)) f_is_step [a0, a1] = rais x := callV_ex (d := d_is_step) rfl rfl (by decide) h
theorem fn_is_system : L.tab.fns f_is_system = some d_is_system := rfl
@[simp] theorem cm_is_system {cf : CF} (a0 : R) : callM L.tab cf f_is_system [a0] = bnd (frzL [a0]) (callV cf f_is_system) := callM_nb (d := d_is_system) rfl rfl rfl
theorem run_is_system {k : Nat} {a0 : D} {r : PR} (h : IsRt (evB L.tab (callF L.tab k) b_is_system [.v a0, .un, .un]) r) : callV (callF L.tab (k+1)) f_is_system [a0] = ret r.r := callV_rt (d := d_is_system) rfl rfl (by decide) h
theorem rex_is_system {k : Nat} {a0 : D} {x : Ex} (h : IsEx (evB L.tab (callF L.tab k) b_is_system [.v a0, .un, .un]) x) : callV (callF L.tab (k+1)) f_is_system [a0] = rais x := callV_ex (d := d_is_system) rfl rfl (by decide) h
theorem fn_check_system : L.tab.fns f_check_system = some d_check_system := rfl
@[simp] theorem cm_check_system {cf : CF} (a0 : R) : callM L.tab cf f_check_system [a0] = bnd (frzL [a0]) (callV cf f_check_system) := callM_nb (d := d_check_system) rfl rfl rfl
theorem run_check_system {k : Nat} {a0 : D} {r : PR} (h : IsRt (evB L.tab (callF L.tab k) b_check_system [.v a0]) r) : callV (callF L.tab (k+1)) f_check_system [a0] = ret r.r := callV_rt (d := d_check_system) rfl rfl (by decide) h
theorem rex_check_system {k : Nat} {a0 : D} {x : Ex} (h : IsEx (evB L.tab (callF L.tab k) b_check_system [.v a0]) x) : callV (callF L.tab (k+1)) f_check_system [a0] = rais x := callV_ex (d := d_check_system) rfl rfl (by decide) h
theorem fn_is_state : L.tab.fns f_is_state = some d_is_state := rfl
@[simp] theorem cm_is_state {cf : CF} (a0 a1 : R) : callM L.tab cf f_is_state [a0, a1] = bnd (frzL [a0, a1]) (callV cf f_is_state) := callM_nb (d := d_is_state) rfl rfl rfl
theorem run_is_state {k : Nat} {a0 a1 : D} {r : PR} (h : IsRt (evB L.tab (callF L.tab k) b_is_state [.v a0, .v a1]) r) : callV (callF L.tab (k+1)) f_is_state [a0, a1] = ret r.r := callV_rt (d := d_is_state) rfl rfl (by decide) h
theorem rex_is_state {k : Nat} {a0 a1 : D} {x : Ex} (h : IsEx (evB L.tab (callF L.tab k) b_is_state [.v a0, .v a1]) x) : callV (callF L.tab (k+1)) f_is_state [a0, a1] = rais x := callV_ex (d := d_is_state) rfl rfl (by decide) h
theorem fn_check_state : L.tab.fns f_check_state = some d_check_state := rfl
@[simp] theorem cm_check_state {cf : CF} (a0 a1 : R) : callM L.tab cf f_check_state [a0, a1] = bnd (frzL [a0, a1]) (callV cf f_check_state) := callM_nb (d := d_check_state) rfl rfl rfl
theorem run_check_state {k : Nat} {a0 a1 : D} {r : PR} (h : IsRt (evB L.tab (callF L.tab k) b_check_state [.v a0, .v a1]) r) : callV (callF L.tab (k+1)) f_check_state [a0, a1] = ret r.r := callV_rt (d := d_check_state) rfl rfl (by decide) h
theorem rex_check_state {k : Nat} {a0 a1 : D} {x : Ex} (h : IsEx (evB L.tab (callF L.tab k) b_check_state [.v a0, .v a1]) x) : callV (callF L.tab (k+1)) f_check_state [a0, a1] = rais x := callV_ex (d := d_check_state) rfl rfl (by decide) h
theorem fn_reached : L.tab.fns f_reached = some d_reached := rfl
@[simp] theorem cm_reached {cf : CF} (a0 a1 : R) : callM L.tab cf f_reached [a0, a1] = bnd (frzL [a0, a1]) (callV cf f_reached) := callM_nb (d := d_reached) rfl rfl rfl
theorem run_reached {k : Nat} {a0 a1 : D} {r : PR} (h : IsRt (evB L.tab (callF L.tab k) b_reached [.v a0, .v a1, .un, .un, .un, .un]) r) : callV (callF L.tab (k+1)) f_reached [a0, a1] = ret r.r := callV_rt (d := d_reached) rfl rfl (by decide) h
theorem rex_reached {k : Nat} {a0 a1 : D} {x : Ex} (h : IsEx (evB L.tab (callF L.tab k) b_reached [.v a0, .v a1, .un, .un, .un, .un]) x) : callV (callF L.tab (k+1)) f_reached [a0, a1] = rais x := callV_ex (d := d_reached) rfl rfl (by decide) h
theorem fn_rounds_from : L.tab.fns f_rounds_from = some d_rounds_from := rfl
@[simp] theorem cm_rounds_from {cf : CF} (a0 a1 : R) : callM L.tab cf f_rounds_from [a0, a1] = bnd (frzL [a0, a1]) (callV cf f_rounds_from) := callM_nb (d := d_rounds_from) rfl rfl rfl
theorem run_rounds_from {k : Nat} {a0 a1 : D} {r : PR} (h : IsRt (evB L.tab (callF L.tab k) b_rounds_from [.v a0, .v a1, .un, .un, .un, .un, .un, .un, .un, .un]) r) : callV (callF L.tab (k+1)) f_rounds_from [a0, a1] = ret r.r := callV_rt (d := d_rounds_from) rfl rfl (by decide) h
theorem rex_rounds_from {k : Nat} {a0 a1 : D} {x : Ex} (h : IsEx (evB L.tab (callF L.tab k) b_rounds_from [.v a0, .v a1, .un, .un, .un, .un, .un, .un, .un, .un]) x) : callV (callF L.tab (k+1)) f_rounds_from [a0, a1] = rais x := callV_ex (d := d_rounds_from) rfl rfl (by decide) h
theorem fn_found_rounds : L.tab.fns f_found_rounds = some d_found_rounds := rfl
@[simp] theorem cm_found_rounds {cf : CF} (a0 : R) : callM L.tab cf f_found_rounds [a0] = bnd (frzL [a0]) (callV cf f_found_rounds) := callM_nb (d := d_found_rounds) rfl rfl rfl
theorem run_found_rounds {k : Nat} {a0 : D} {r : PR} (h : IsRt (evB L.tab (callF L.tab k) b_found_rounds [.v a0, .un, .un]) r) : callV (callF L.tab (k+1)) f_found_rounds [a0] = ret r.r := callV_rt (d := d_found_rounds) rfl rfl (by decide) h
theorem rex_found_rounds {k : Nat} {a0 : D} {x : Ex} (h : IsEx (evB L.tab (callF L.tab k) b_found_rounds [.v a0, .un, .un]) x) : callV (callF L.tab (k+1)) f_found_rounds [a0] = rais x := callV_ex (d := d_found_rounds) rfl rfl (by decide) h
theorem fn_simple_rounds : L.tab.fns f_simple_rounds = some d_simple_rounds := rfl
@[simp] theorem cm_simple_rounds {cf : CF} (a0 : R) : callM L.tab cf f_simple_rounds [a0] = bnd (frzL [a0]) (callV cf f_simple_rounds) := callM_nb (d := d_simple_rounds) rfl rfl rfl
theorem run_simple_rounds {k : Nat} {a0 : D} {r : PR} (h : IsRt (evB L.tab (callF L.tab k) b_simple_rounds [.v a0]) r) : callV (callF L.tab (k+1)) f_simple_rounds [a0] = ret r.r := callV_rt (d := d_simple_rounds) rfl rfl (by decide) h
theorem rex_simple_rounds {k : Nat} {a0 : D} {x : Ex} (h : IsEx (evB L.tab (callF L.tab k) b_simple_rounds [.v a0]) x) : callV (callF L.tab (k+1)) f_simple_rounds [a0] = rais x := callV_ex (d := d_simple_rounds) rfl rfl (by decide) h
theorem fn_deeds_in : L.tab.fns f_deeds_in = some d_deeds_in := rfl
@[simp] theorem cm_deeds_in {cf : CF} (a0 a1 a2 : R) : callM L.tab cf f_deeds_in [a0, a1, a2] = bnd (frzL [a0, a1, a2]) (callV cf f_deeds_in) := callM_nb (d := d_deeds_in) rfl rfl rfl
theorem run_deeds_in {k : Nat} {a0 a1 a2 : D} {r : PR} (h : IsRt (evB L.tab (callF L.tab k) b_deeds_in [.v a0, .v a1, .v a2, .un, .un, .un]) r) : callV (callF L.tab (k+1)) f_deeds_in [a0, a1, a2] = ret r.r := callV_rt (d := d_deeds_in) rfl rfl (by decide) h
theorem rex_deeds_in {k : Nat} {a0 a1 a2 : D} {x : Ex} (h : IsEx (evB L.tab (callF L.tab k) b_deeds_in [.v a0, .v a1, .v a2, .un, .un, .un]) x) : callV (callF L.tab (k+1)) f_deeds_in [a0, a1, a2] = rais x := callV_ex (d := d_deeds_in) rfl rfl (by decide) h
theorem fn_share_range : L.tab.fns f_share_range = some d_share_range := rfl
@[simp] theorem cm_share_range {cf : CF} (a0 a1 : R) : callM L.tab cf f_share_range [a0, a1] = bnd (frzL [a0, a1]) (callV cf f_share_range) := callM_nb (d := d_share_range) rfl rfl rfl
theorem run_share_range {k : Nat} {a0 a1 : D} {r : PR} (h : IsRt (evB L.tab (callF L.tab k) b_share_range [.v a0, .v a1, .un, .un, .un, .un, .un, .un, .un, .un, .un]) r) : callV (callF L.tab (k+1)) f_share_range [a0, a1] = ret r.r := callV_rt (d := d_share_range) rfl rfl (by decide) h
theorem rex_share_range {k : Nat} {a0 a1 : D} {x : Ex} (h : IsEx (evB L.tab (callF L.tab k) b_share_range [.v a0, .v a1, .un, .un, .un, .un, .un, .un, .un, .un, .un]) x) : callV (callF L.tab (k+1)) f_share_range [a0, a1] = rais x := callV_ex (d := d_share_range) rfl rfl (by decide) h
theorem fn_law_draw : L.tab.fns f_law_draw = some d_law_draw := rfl
@[simp] theorem cm_law_draw {cf : CF} (a0 : R) : callM L.tab cf f_law_draw [a0] = bnd (frzL [a0]) (callV cf f_law_draw) := callM_nb (d := d_law_draw) rfl rfl rfl
theorem run_law_draw {k : Nat} {a0 : D} {r : PR} (h : IsRt (evB L.tab (callF L.tab k) b_law_draw [.v a0, .un, .un]) r) : callV (callF L.tab (k+1)) f_law_draw [a0] = ret r.r := callV_rt (d := d_law_draw) rfl rfl (by decide) h
theorem rex_law_draw {k : Nat} {a0 : D} {x : Ex} (h : IsEx (evB L.tab (callF L.tab k) b_law_draw [.v a0, .un, .un]) x) : callV (callF L.tab (k+1)) f_law_draw [a0] = rais x := callV_ex (d := d_law_draw) rfl rfl (by decide) h
theorem fn_law_take : L.tab.fns f_law_take = some d_law_take := rfl
@[simp] theorem cma_law_take {cf : CF} {b : Bool} {o : Ob} {rest : Env} {a1 : D} : callM L.tab cf f_law_take [.ow 0, .v a1] (.ow b o :: rest) = callD cf f_law_take 0 [a1] (.ow b o :: rest) := callM_dr (d := d_law_take) rfl rfl rfl rfl rfl
@[simp] theorem cmb_law_take {cf : CF} {s : Sl} {b : Bool} {o : Ob} {rest : Env} {a1 : D} : callM L.tab cf f_law_take [.ow 1, .v a1] (s :: .ow b o :: rest) = callD cf f_law_take 1 [a1] (s :: .ow b o :: rest) := callM_dr (d := d_law_take) rfl rfl rfl rfl rfl
theorem run_law_take {k : Nat} {dr dr1 : DrT} {a1 : D} {r : PR} (h : IsDr (evB L.tab (callF L.tab k) b_law_take [.ow true dr.o, .v a1, .un]) r dr1.o) : Drw (callF L.tab (k+1)) f_law_take dr [a1] r dr1 := drw_of (d := d_law_take) rfl rfl (by decide) h
theorem fn_law_system : L.tab.fns f_law_system = some d_law_system := rfl
@[simp] theorem cma_law_system {cf : CF} {b : Bool} {o : Ob} {rest : Env} {a1 : D} : callM L.tab cf f_law_system [.ow 0, .v a1] (.ow b o :: rest) = callD cf f_law_system 0 [a1] (.ow b o :: rest) := callM_dr (d := d_law_system) rfl rfl rfl rfl rfl
@[simp] theorem cmb_law_system {cf : CF} {s : Sl} {b : Bool} {o : Ob} {rest : Env} {a1 : D} : callM L.tab cf f_law_system [.ow 1, .v a1] (s :: .ow b o :: rest) = callD cf f_law_system 1 [a1] (s :: .ow b o :: rest) := callM_dr (d := d_law_system) rfl rfl rfl rfl rfl
theorem run_law_system {k : Nat} {dr dr1 : DrT} {a1 : D} {r : PR} (h : IsDr (evB L.tab (callF L.tab k) b_law_system [.ow true dr.o, .v a1, .un, .un, .un, .un, .un, .un, .un, .un]) r dr1.o) : Drw (callF L.tab (k+1)) f_law_system dr [a1] r dr1 := drw_of (d := d_law_system) rfl rfl (by decide) h
theorem fn_law_walk : L.tab.fns f_law_walk = some d_law_walk := rfl
@[simp] theorem cma_law_walk {cf : CF} {b : Bool} {o : Ob} {rest : Env} {a1 : D} : callM L.tab cf f_law_walk [.ow 0, .v a1] (.ow b o :: rest) = callD cf f_law_walk 0 [a1] (.ow b o :: rest) := callM_dr (d := d_law_walk) rfl rfl rfl rfl rfl
@[simp] theorem cmb_law_walk {cf : CF} {s : Sl} {b : Bool} {o : Ob} {rest : Env} {a1 : D} : callM L.tab cf f_law_walk [.ow 1, .v a1] (s :: .ow b o :: rest) = callD cf f_law_walk 1 [a1] (s :: .ow b o :: rest) := callM_dr (d := d_law_walk) rfl rfl rfl rfl rfl
theorem run_law_walk {k : Nat} {dr dr1 : DrT} {a1 : D} {r : PR} (h : IsDr (evB L.tab (callF L.tab k) b_law_walk [.ow true dr.o, .v a1, .un]) r dr1.o) : Drw (callF L.tab (k+1)) f_law_walk dr [a1] r dr1 := drw_of (d := d_law_walk) rfl rfl (by decide) h
theorem fn_law_walked : L.tab.fns f_law_walked = some d_law_walked := rfl
@[simp] theorem cm_law_walked {cf : CF} (a0 a1 a2 : R) : callM L.tab cf f_law_walked [a0, a1, a2] = bnd (frzL [a0, a1, a2]) (callV cf f_law_walked) := callM_nb (d := d_law_walked) rfl rfl rfl
theorem run_law_walked {k : Nat} {a0 a1 a2 : D} {r : PR} (h : IsRt (evB L.tab (callF L.tab k) b_law_walked [.v a0, .v a1, .v a2, .un, .un, .un]) r) : callV (callF L.tab (k+1)) f_law_walked [a0, a1, a2] = ret r.r := callV_rt (d := d_law_walked) rfl rfl (by decide) h
theorem rex_law_walked {k : Nat} {a0 a1 a2 : D} {x : Ex} (h : IsEx (evB L.tab (callF L.tab k) b_law_walked [.v a0, .v a1, .v a2, .un, .un, .un]) x) : callV (callF L.tab (k+1)) f_law_walked [a0, a1, a2] = rais x := callV_ex (d := d_law_walked) rfl rfl (by decide) h
theorem fn_law_odd_system : L.tab.fns f_law_odd_system = some d_law_odd_system := rfl
@[simp] theorem cma_law_odd_system {cf : CF} {b : Bool} {o : Ob} {rest : Env} : callM L.tab cf f_law_odd_system [.ow 0] (.ow b o :: rest) = callD cf f_law_odd_system 0 [] (.ow b o :: rest) := callM_dr (d := d_law_odd_system) rfl rfl rfl rfl rfl
@[simp] theorem cmb_law_odd_system {cf : CF} {s : Sl} {b : Bool} {o : Ob} {rest : Env} : callM L.tab cf f_law_odd_system [.ow 1] (s :: .ow b o :: rest) = callD cf f_law_odd_system 1 [] (s :: .ow b o :: rest) := callM_dr (d := d_law_odd_system) rfl rfl rfl rfl rfl
theorem run_law_odd_system {k : Nat} {dr dr1 : DrT} {r : PR} (h : IsDr (evB L.tab (callF L.tab k) b_law_odd_system [.ow true dr.o, .un]) r dr1.o) : Drw (callF L.tab (k+1)) f_law_odd_system dr [] r dr1 := drw_of (d := d_law_odd_system) rfl rfl (by decide) h
theorem fn_law_odd_state : L.tab.fns f_law_odd_state = some d_law_odd_state := rfl
@[simp] theorem cma_law_odd_state {cf : CF} {b : Bool} {o : Ob} {rest : Env} {a1 : D} : callM L.tab cf f_law_odd_state [.ow 0, .v a1] (.ow b o :: rest) = callD cf f_law_odd_state 0 [a1] (.ow b o :: rest) := callM_dr (d := d_law_odd_state) rfl rfl rfl rfl rfl
@[simp] theorem cmb_law_odd_state {cf : CF} {s : Sl} {b : Bool} {o : Ob} {rest : Env} {a1 : D} : callM L.tab cf f_law_odd_state [.ow 1, .v a1] (s :: .ow b o :: rest) = callD cf f_law_odd_state 1 [a1] (s :: .ow b o :: rest) := callM_dr (d := d_law_odd_state) rfl rfl rfl rfl rfl
theorem run_law_odd_state {k : Nat} {dr dr1 : DrT} {a1 : D} {r : PR} (h : IsDr (evB L.tab (callF L.tab k) b_law_odd_state [.ow true dr.o, .v a1]) r dr1.o) : Drw (callF L.tab (k+1)) f_law_odd_state dr [a1] r dr1 := drw_of (d := d_law_odd_state) rfl rfl (by decide) h
theorem fn_law_rounds : L.tab.fns f_law_rounds = some d_law_rounds := rfl
@[simp] theorem cm_law_rounds {cf : CF} (a0 a1 a2 a3 a4 : R) : callM L.tab cf f_law_rounds [a0, a1, a2, a3, a4] = bnd (frzL [a0, a1, a2, a3, a4]) (callV cf f_law_rounds) := callM_nb (d := d_law_rounds) rfl rfl rfl
theorem run_law_rounds {k : Nat} {a0 a1 a2 a3 a4 : D} {r : PR} (h : IsRt (evB L.tab (callF L.tab k) b_law_rounds [.v a0, .v a1, .v a2, .v a3, .v a4, .un, .un, .un]) r) : callV (callF L.tab (k+1)) f_law_rounds [a0, a1, a2, a3, a4] = ret r.r := callV_rt (d := d_law_rounds) rfl rfl (by decide) h
theorem rex_law_rounds {k : Nat} {a0 a1 a2 a3 a4 : D} {x : Ex} (h : IsEx (evB L.tab (callF L.tab k) b_law_rounds [.v a0, .v a1, .v a2, .v a3, .v a4, .un, .un, .un]) x) : callV (callF L.tab (k+1)) f_law_rounds [a0, a1, a2, a3, a4] = rais x := callV_ex (d := d_law_rounds) rfl rfl (by decide) h
theorem fn_law_reached : L.tab.fns f_law_reached = some d_law_reached := rfl
@[simp] theorem cm_law_reached {cf : CF} (a0 a1 : R) : callM L.tab cf f_law_reached [a0, a1] = bnd (frzL [a0, a1]) (callV cf f_law_reached) := callM_nb (d := d_law_reached) rfl rfl rfl
theorem run_law_reached {k : Nat} {a0 a1 : D} {r : PR} (h : IsRt (evB L.tab (callF L.tab k) b_law_reached [.v a0, .v a1, .un, .un, .un]) r) : callV (callF L.tab (k+1)) f_law_reached [a0, a1] = ret r.r := callV_rt (d := d_law_reached) rfl rfl (by decide) h
theorem rex_law_reached {k : Nat} {a0 a1 : D} {x : Ex} (h : IsEx (evB L.tab (callF L.tab k) b_law_reached [.v a0, .v a1, .un, .un, .un]) x) : callV (callF L.tab (k+1)) f_law_reached [a0, a1] = rais x := callV_ex (d := d_law_reached) rfl rfl (by decide) h
theorem fn_law_counts : L.tab.fns f_law_counts = some d_law_counts := rfl
@[simp] theorem cm_law_counts {cf : CF} (a0 a1 a2 : R) : callM L.tab cf f_law_counts [a0, a1, a2] = bnd (frzL [a0, a1, a2]) (callV cf f_law_counts) := callM_nb (d := d_law_counts) rfl rfl rfl
theorem run_law_counts {k : Nat} {a0 a1 a2 : D} {r : PR} (h : IsRt (evB L.tab (callF L.tab k) b_law_counts [.v a0, .v a1, .v a2, .un, .un]) r) : callV (callF L.tab (k+1)) f_law_counts [a0, a1, a2] = ret r.r := callV_rt (d := d_law_counts) rfl rfl (by decide) h
theorem rex_law_counts {k : Nat} {a0 a1 a2 : D} {x : Ex} (h : IsEx (evB L.tab (callF L.tab k) b_law_counts [.v a0, .v a1, .v a2, .un, .un]) x) : callV (callF L.tab (k+1)) f_law_counts [a0, a1, a2] = rais x := callV_ex (d := d_law_counts) rfl rfl (by decide) h
theorem fn_law_lowest : L.tab.fns f_law_lowest = some d_law_lowest := rfl
@[simp] theorem cm_law_lowest {cf : CF} (a0 a1 : R) : callM L.tab cf f_law_lowest [a0, a1] = bnd (frzL [a0, a1]) (callV cf f_law_lowest) := callM_nb (d := d_law_lowest) rfl rfl rfl
theorem run_law_lowest {k : Nat} {a0 a1 : D} {r : PR} (h : IsRt (evB L.tab (callF L.tab k) b_law_lowest [.v a0, .v a1, .un, .un]) r) : callV (callF L.tab (k+1)) f_law_lowest [a0, a1] = ret r.r := callV_rt (d := d_law_lowest) rfl rfl (by decide) h
theorem rex_law_lowest {k : Nat} {a0 a1 : D} {x : Ex} (h : IsEx (evB L.tab (callF L.tab k) b_law_lowest [.v a0, .v a1, .un, .un]) x) : callV (callF L.tab (k+1)) f_law_lowest [a0, a1] = rais x := callV_ex (d := d_law_lowest) rfl rfl (by decide) h
theorem fn_law_told : L.tab.fns f_law_told = some d_law_told := rfl
@[simp] theorem cm_law_told {cf : CF} (a0 a1 a2 : R) : callM L.tab cf f_law_told [a0, a1, a2] = bnd (frzL [a0, a1, a2]) (callV cf f_law_told) := callM_nb (d := d_law_told) rfl rfl rfl
theorem run_law_told {k : Nat} {a0 a1 a2 : D} {r : PR} (h : IsRt (evB L.tab (callF L.tab k) b_law_told [.v a0, .v a1, .v a2]) r) : callV (callF L.tab (k+1)) f_law_told [a0, a1, a2] = ret r.r := callV_rt (d := d_law_told) rfl rfl (by decide) h
theorem rex_law_told {k : Nat} {a0 a1 a2 : D} {x : Ex} (h : IsEx (evB L.tab (callF L.tab k) b_law_told [.v a0, .v a1, .v a2]) x) : callV (callF L.tab (k+1)) f_law_told [a0, a1, a2] = rais x := callV_ex (d := d_law_told) rfl rfl (by decide) h
theorem fn_law : L.tab.fns f_law = some d_law := rfl
@[simp] theorem cm_law {cf : CF} (a0 : R) : callM L.tab cf f_law [a0] = bnd (frzL [a0]) (callV cf f_law) := callM_nb (d := d_law) rfl rfl rfl
theorem run_law {k : Nat} {a0 : D} {r : PR} (h : IsRt (evB L.tab (callF L.tab k) b_law [.v a0, .un, .un, .un, .un, .un, .un, .un, .un, .un, .un, .un, .un, .un, .un, .un, .un, .un, .un, .un, .un]) r) : callV (callF L.tab (k+1)) f_law [a0] = ret r.r := callV_rt (d := d_law) rfl rfl (by decide) h
theorem rex_law {k : Nat} {a0 : D} {x : Ex} (h : IsEx (evB L.tab (callF L.tab k) b_law [.v a0, .un, .un, .un, .un, .un, .un, .un, .un, .un, .un, .un, .un, .un, .un, .un, .un, .un, .un, .un, .un]) x) : callV (callF L.tab (k+1)) f_law [a0] = rais x := callV_ex (d := d_law) rfl rfl (by decide) h
end Ev.k71

set_option Elab.async false
set_option linter.all false
set_option maxRecDepth 100000
set_option maxHeartbeats 4000000
namespace Ev.k71
open PySem Ev
/-! systems -/
abbrev Sy := List ((Nat × Nat) × (Nat × Nat))
def rwD (p : (Nat × Nat) × (Nat × Nat)) : D := .tup [.tup [.int p.1.1, .int p.1.2], .tup [.int p.2.1, .int p.2.2]]
@[simp] theorem rwD_u (p : (Nat × Nat) × (Nat × Nat)) : rwD p = .tup [.tup [.int p.1.1, .int p.1.2], .tup [.int p.2.1, .int p.2.2]] := rfl
def syD (s : Sy) : D := .tup (s.map rwD)
structure SyOk (s : Sy) : Prop where
  pos : 1 ≤ s.length
  most : s.length ≤ 6
  row : ∀ p ∈ s, p.1.1 < s.length ∧ p.1.2 ≤ 1 ∧ p.2.1 < s.length ∧ p.2.2 ≤ 1
@[simp] theorem isi_syD (t : Ty) (s : Sy) : isiD t (syD s) = some (t == .tuple) := rfl
@[simp] theorem len_syD (s : Sy) : biD .len [syD s] = some (.v (.int s.length)) := by
  show some (PR.v (.int (((s.map rwD).length : Nat) : Int))) = _
  rw [List.length_map]
@[simp] theorem seq_syD (s : Sy) : seqD (syD s) = some (s.map rwD) := rfl
theorem ix_syD {s : Sy} {n : Nat} {p : (Nat × Nat) × (Nat × Nat)} (h : s[n]? = some p) : ixD (syD s) (.int n) = some (rwD p) := by
  show ixD (.tup (s.map rwD)) (.int (n : Int)) = _
  rw [ix_tup, List.getElem?_map, h]; rfl
@[simp] theorem is_whole_int {k : Nat} {i : Int} : callV (callF tb (k+1)) f_is_whole [.int i] = ret (.v (.bl true)) := run_is_whole (r := .v (.bl true)) (by simp [b_is_whole])
theorem is_step_lc {k : Nat} {a b m : Int} : (ev tb (callF tb (k+1)) lc_is_step_1).1 [.v (.tup [.int a, .int b]), .v (.int m), .un] = some (.ok (.fr (.lst [.bl true, .bl true])) [.v (.tup [.int a, .int b]), .v (.int m), .un]) :=
  lc_mp [a, b] D.int (fun _ => .bl true) (e1 := [.v (.tup [.int a, .int b]), .v (.int m), .un]) (by simp) (by simp) fun x _ => by simp
@[simp] theorem is_step_eq {k : Nat} {a b m : Int} : callV (callF tb (k+2)) f_is_step [.tup [.int a, .int b], .int m] = ret (.v (.bl (decide (0 ≤ a) && decide (a < m) && (decide (0 ≤ b) && decide (b ≤ 1))))) := by
  refine run_is_step (r := .v _) ?_
  by_cases h1 : 0 ≤ a <;> by_cases h2 : 0 ≤ b <;> by_cases h3 : a < m <;> simp [b_is_step, is_step_lc, h1, h2, h3]
theorem is_system_lc1 {k : Nat} {s : Sy} (h : s.length ≤ 6) : (ev tb (callF tb k) lc_is_system_1).1 [.v (syD s), .un, .un] = some (.ok (.fr (.lst (s.map fun _ => .bl true))) [.v (syD s), .un, .un]) :=
  lc_mp s rwD (fun _ => .bl true) (e1 := [.v (syD s), .un, .un]) (by simp) (by omega) fun x _ => by simp
theorem is_system_lc2 {k : Nat} {s : Sy} (h : SyOk s) : (ev tb (callF tb (k+2)) lc_is_system_2).1 [.v (syD s), .un, .un] = some (.ok (.fr (.lst (s.flatMap fun p => [p.1, p.2].map fun _ => .bl true))) [.v (syD s), .un, .un]) := by
  have hm := h.most
  refine lc2_mp s rwD (fun p => [p.1, p.2]) (fun q => .tup [.int q.1, .int q.2]) (fun _ _ => .bl true) (fun p => [.v (syD s), .v (rwD p), .un]) (e1 := [.v (syD s), .un, .un]) (by simp) ?_ (fun x _ => by simp) (fun x _ => by simp) (fun x _ => by simp) fun x hx y hy => ?_
  · rw [len_flat _ 2 s fun _ _ => rfl]
    omega
  · obtain ⟨h1, h2, h3, h4⟩ := h.row x hx
    simp at hy
    rcases hy with rfl | rfl
    · simp [h1, h2]
      omega
    · simp [h3, h4]
      omega
@[simp] theorem is_system_ok {k : Nat} {s : Sy} (h : SyOk s) : callV (callF tb (k+3)) f_is_system [syD s] = ret (.v (.bl true)) := by
  refine run_is_system (r := .v (.bl true)) ?_
  have h1 := h.pos
  have h2 := h.most
  have e1 : (1 : Int) ≤ (s.length : Int) := by omega
  have e2 : (s.length : Int) ≤ 6 := by omega
  have a : biD .all [.lst (s.flatMap fun p => [.bl true, .bl true])] = some (.v (.bl true)) := by
    have := all_flat (fun p : (Nat × Nat) × (Nat × Nat) => [p.1, p.2]) (fun _ _ => true) s
    simp at this
    rw [this]
    simp
  simp [b_is_system, is_system_lc1 h2, is_system_lc2 h, e1, e2, a]
@[simp] theorem check_system_ok {k : Nat} {s : Sy} (h : SyOk s) : callV (callF tb (k+4)) f_check_system [syD s] = ret (.v .non) := by
  refine run_check_system (r := .v .non) ?_
  simp [b_check_system, h]
@[simp] theorem is_state_int {k : Nat} {s : Sy} {i : Int} : callV (callF tb (k+2)) f_is_state [syD s, .int i] = ret (.v (.bl (decide (0 ≤ i) && decide (i < s.length)))) := by
  refine run_is_state (r := .v _) ?_
  by_cases h : 0 ≤ i <;> simp [b_is_state, h]
@[simp] theorem check_state_ok {k n : Nat} {s : Sy} (h : n < s.length) : callV (callF tb (k+3)) f_check_state [syD s, .int n] = ret (.v .non) := by
  refine run_check_state (r := .v .non) ?_
  simp [b_check_state, h]
/-- walks -/
def stp (s : Sy) (h x : Nat) : Nat × Nat := match s[x]? with
  | some p => if h = 0 then p.1 else p.2
  | none => (0, 0)
theorem stp_ok {s : Sy} (ok : SyOk s) {x : Nat} (hx : x < s.length) (h : Nat) : (stp s h x).1 < s.length ∧ (stp s h x).2 ≤ 1 := by
  unfold stp
  rw [List.getElem?_eq_getElem hx]
  obtain ⟨r1, r2, r3, r4⟩ := ok.row s[x] (List.getElem_mem hx)
  simp only
  split
  · exact ⟨r1, r2⟩
  · exact ⟨r3, r4⟩
def stD (p : Nat × Nat) : D := .tup [.int p.1, .int p.2]
/-- system[state][hand] -/
theorem stp_at {s : Sy} {x h : Nat} (hx : x < s.length) (hh : h ≤ 1) : ∃ r, ixD (syD s) (.int x) = some r ∧ ixD r (.int h) = some (stD (stp s h x)) := by
  refine ⟨_, ix_syD (List.getElem?_eq_getElem hx), ?_⟩
  unfold stp
  rw [List.getElem?_eq_getElem hx]
  rcases Nat.le_one_iff_eq_zero_or_eq_one.mp hh with e | e <;> subst e <;> rfl
def natsD (l : List Nat) : List D := l.map fun (n : Nat) => D.int (n : Int)
@[simp] theorem natsD_len (l : List Nat) : (natsD l).length = l.length := List.length_map _
@[simp] theorem natsD_nil : natsD [] = [] := rfl
@[simp] theorem natsD_cons (x : Nat) (l : List Nat) : natsD (x :: l) = .int x :: natsD l := rfl
theorem natsD_app (l m : List Nat) : natsD (l ++ m) = natsD l ++ natsD m := List.map_append
def wk1 (s : Sy) (z : Nat × List Nat) (h : Nat) : Nat × List Nat := ((stp s h z.1).1, if (stp s h z.1).2 = 1 then z.2 ++ [h] else z.2)
def wk (s : Sy) (x : Nat) (w : List Nat) : Nat × List Nat := w.foldl (wk1 s) (x, [])
theorem wk1_ok {s : Sy} (ok : SyOk s) {z : Nat × List Nat} (h : Nat) (hz : z.1 < s.length) : (wk1 s z h).1 < s.length ∧ (wk1 s z h).2.length ≤ z.2.length + 1 := by
  refine ⟨(stp_ok ok hz h).1, ?_⟩
  show (if _ then _ else _ : List Nat).length ≤ _
  split <;> simp
theorem wk_ok {s : Sy} (ok : SyOk s) {x : Nat} (hx : x < s.length) (w : List Nat) : (wk s x w).1 < s.length ∧ (wk s x w).2.length ≤ w.length := by
  have : ∀ (w : List Nat) (z : Nat × List Nat), z.1 < s.length → (w.foldl (wk1 s) z).1 < s.length ∧ (w.foldl (wk1 s) z).2.length ≤ z.2.length + w.length := by
    intro w
    induction w with
    | nil => intro z hz; exact ⟨hz, by simp⟩
    | cons h w ih =>
      intro z hz
      obtain ⟨h1, h2⟩ := wk1_ok ok h hz
      obtain ⟨h3, h4⟩ := ih (wk1 s z h) h1
      refine ⟨h3, ?_⟩
      rw [List.foldl_cons, List.length_cons]
      omega
  have := this w (x, []) hx
  simpa [wk] using this
/-! walks: ends, states, counts of deeds -/
def en (s : Sy) : Nat → List Nat → Nat
  | x, [] => x
  | x, h :: w => en s (stp s h x).1 w
def sts (s : Sy) : Nat → List Nat → List Nat
  | _, [] => []
  | x, h :: w => x :: sts s (stp s h x).1 w
def c0 (s : Sy) : Nat → List Nat → Nat
  | _, [] => 0
  | x, h :: w => (if h = 0 then (stp s h x).2 else 0) + c0 s (stp s h x).1 w
def ca (s : Sy) : Nat → List Nat → Nat
  | _, [] => 0
  | x, h :: w => (stp s h x).2 + ca s (stp s h x).1 w
theorem en_app (s : Sy) : ∀ (a b : List Nat) (x : Nat), en s x (a ++ b) = en s (en s x a) b
  | [], _, _ => rfl
  | h :: a, b, x => en_app s a b _
theorem c0_app (s : Sy) : ∀ (a b : List Nat) (x : Nat), c0 s x (a ++ b) = c0 s x a + c0 s (en s x a) b
  | [], b, x => by show c0 s x b = 0 + c0 s x b; omega
  | h :: a, b, x => by
    show (if h = 0 then (stp s h x).2 else 0) + c0 s (stp s h x).1 (a ++ b) = (if h = 0 then (stp s h x).2 else 0) + c0 s (stp s h x).1 a + c0 s (en s (stp s h x).1 a) b
    rw [c0_app s a b]; omega
theorem ca_app (s : Sy) : ∀ (a b : List Nat) (x : Nat), ca s x (a ++ b) = ca s x a + ca s (en s x a) b
  | [], b, x => by show ca s x b = 0 + ca s x b; omega
  | h :: a, b, x => by
    show (stp s h x).2 + ca s (stp s h x).1 (a ++ b) = (stp s h x).2 + ca s (stp s h x).1 a + ca s (en s (stp s h x).1 a) b
    rw [ca_app s a b]; omega
theorem sts_app (s : Sy) : ∀ (a b : List Nat) (x : Nat), sts s x (a ++ b) = sts s x a ++ sts s (en s x a) b
  | [], _, _ => rfl
  | h :: a, b, x => by
    show x :: sts s (stp s h x).1 (a ++ b) = x :: (sts s (stp s h x).1 a ++ sts s (en s (stp s h x).1 a) b)
    rw [sts_app s a b]
theorem sts_len (s : Sy) : ∀ (w : List Nat) (x : Nat), (sts s x w).length = w.length
  | [], _ => rfl
  | h :: w, x => congrArg (· + 1) (sts_len s w _)
theorem c0_le (s : Sy) : ∀ (w : List Nat) (x : Nat), c0 s x w ≤ ca s x w
  | [], _ => Nat.le_refl _
  | h :: w, x => by
    have := c0_le s w (stp s h x).1
    show (if h = 0 then (stp s h x).2 else 0) + c0 s (stp s h x).1 w ≤ (stp s h x).2 + ca s (stp s h x).1 w
    split <;> omega
theorem ca_le {s : Sy} (ok : SyOk s) : ∀ (w : List Nat) {x : Nat}, x < s.length → ca s x w ≤ w.length
  | [], _, _ => Nat.le_refl _
  | h :: w, x, hx => by
    obtain ⟨h1, h2⟩ := stp_ok ok hx h
    have := ca_le ok w h1
    show (stp s h x).2 + ca s (stp s h x).1 w ≤ w.length + 1
    omega
theorem en_lt {s : Sy} (ok : SyOk s) : ∀ (w : List Nat) {x : Nat}, x < s.length → en s x w < s.length
  | [], _, hx => hx
  | h :: w, x, hx => en_lt ok w (stp_ok ok hx h).1
theorem sts_lt {s : Sy} (ok : SyOk s) : ∀ (w : List Nat) {x : Nat}, x < s.length → ∀ y ∈ sts s x w, y < s.length
  | [], _, _, _, hy => nomatch hy
  | h :: w, x, hx, y, hy => by
    rcases List.mem_cons.mp hy with rfl | hy
    · exact hx
    · exact sts_lt ok w (stp_ok ok hx h).1 y hy
theorem sts_at (s : Sy) : ∀ (w : List Nat) (x i : Nat), i < w.length → (sts s x w)[i]? = some (en s x (w.take i))
  | [], _, _, h => absurd h (by simp)
  | h :: w, x, 0, _ => rfl
  | h :: w, x, i + 1, hi => by
    show (sts s (stp s h x).1 w)[i]? = some (en s (stp s h x).1 (w.take i))
    exact sts_at s w _ i (by simpa using hi)
/-- what walks lead to -/
def Rch (s : Sy) (x y : Nat) : Prop := ∃ w : List Nat, (∀ h ∈ w, h ≤ 1) ∧ en s x w = y
theorem Rch.refl (s : Sy) (x : Nat) : Rch s x x := ⟨[], by simp, rfl⟩
theorem Rch.step {s : Sy} {x y h : Nat} (r : Rch s x y) (hh : h ≤ 1) : Rch s x (stp s h y).1 := by
  obtain ⟨w, h1, rfl⟩ := r
  exact ⟨w ++ [h], fun a ha => by
    rcases List.mem_append.mp ha with ha | ha
    · exact h1 a ha
    · rw [List.mem_singleton.mp ha]; exact hh, en_app s w [h] x⟩
theorem Rch.trans {s : Sy} {x y z : Nat} (r : Rch s x y) (q : Rch s y z) : Rch s x z := by
  obtain ⟨w, h1, rfl⟩ := r
  obtain ⟨v, h2, rfl⟩ := q
  exact ⟨w ++ v, fun a ha => by
    rcases List.mem_append.mp ha with ha | ha
    · exact h1 a ha
    · exact h2 a ha, en_app s w v x⟩
theorem Rch.lt {s : Sy} (ok : SyOk s) {x y : Nat} (hx : x < s.length) (r : Rch s x y) : y < s.length := by
  obtain ⟨w, _, rfl⟩ := r
  exact en_lt ok w hx
/-- a short walk to each -/
theorem Rch.short {s : Sy} (ok : SyOk s) {x y : Nat} (hx : x < s.length) (r : Rch s x y) : ∃ w : List Nat, (∀ h ∈ w, h ≤ 1) ∧ en s x w = y ∧ w.length < s.length := by
  obtain ⟨w0, a0, b0⟩ := r
  obtain ⟨m, _, ⟨w, h1, h2, h3⟩, h4⟩ := least (P := fun m => ∃ w : List Nat, (∀ h ∈ w, h ≤ 1) ∧ en s x w = y ∧ w.length = m) w0.length ⟨w0, a0, b0, rfl⟩
  refine ⟨w, h1, h2, ?_⟩
  refine Decidable.byContradiction fun q => ?_
  have q : s.length ≤ w.length := by omega
  obtain ⟨i, j, k1, k2, k3⟩ := pigeon s.length (fun i => en s x (w.take i)) fun i _ => en_lt ok _ hx
  refine h4 ((w.take i ++ w.drop j).length) ?_ ⟨w.take i ++ w.drop j, fun a ha => ?_, ?_, rfl⟩
  · rw [List.length_append, List.length_take, List.length_drop]; omega
  · rcases List.mem_append.mp ha with ha | ha
    · exact h1 a (List.mem_of_mem_take ha)
    · exact h1 a (List.mem_of_mem_drop ha)
  · rw [en_app]
    have k3 : en s x (w.take i) = en s x (w.take j) := k3
    rw [k3, ← en_app, List.take_append_drop]
    exact h2
/-- round walks fall apart into simple ones -/
theorem rounds_ind {s : Sy} {C : Nat → List Nat → Prop} (h0 : ∀ x, C x [])
    (hc : ∀ x a b c, C (en s x a) b → en s (en s x a) b = en s x a → C x (a ++ c) → C x (a ++ (b ++ c)))
    (hs : ∀ x w, w ≠ [] → (∀ h ∈ w, h ≤ 1) → en s x w = x → (sts s x w).Nodup → C x w) : ∀ (n : Nat) (x : Nat) (w : List Nat), w.length = n → (∀ h ∈ w, h ≤ 1) → en s x w = x → C x w := by
  intro n
  induction n using Nat.strongRecOn with
  | ind n ih =>
    intro x w hn hw he
    by_cases hne : w = []
    · rw [hne]; exact h0 x
    by_cases nd : (sts s x w).Nodup
    · exact hs x w hne hw he nd
    · rw [List.nodup_iff_pairwise_ne, List.pairwise_iff_getElem] at nd
      have nd : ∃ i j, i < j ∧ j < w.length ∧ en s x (w.take i) = en s x (w.take j) := by
        refine Classical.byContradiction fun q => nd fun i j hi hj hij e => ?_
        rw [sts_len] at hi hj
        refine q ⟨i, j, hij, hj, ?_⟩
        have e1 := sts_at s w x i hi
        have e2 := sts_at s w x j hj
        rw [List.getElem?_eq_getElem (by rw [sts_len]; exact hi)] at e1
        rw [List.getElem?_eq_getElem (by rw [sts_len]; exact hj)] at e2
        rw [← Option.some.inj e1, ← Option.some.inj e2]
        exact e
      obtain ⟨i, j, h1, h2, h3⟩ := nd
      have e1 : w = w.take i ++ ((w.take j).drop i ++ w.drop j) := by
        rw [← List.append_assoc]
        have : w.take i ++ (w.take j).drop i = w.take j := by
          have := List.take_append_drop i (w.take j)
          rw [List.take_take, Nat.min_eq_left (by omega)] at this
          exact this
        rw [this, List.take_append_drop]
      have e2 : w.take j = w.take i ++ (w.take j).drop i := by
        have := List.take_append_drop i (w.take j)
        rw [List.take_take, Nat.min_eq_left (by omega)] at this
        exact this.symm
      have e3 : en s (en s x (w.take i)) ((w.take j).drop i) = en s x (w.take i) := by rw [← en_app, ← e2]; exact h3.symm
      rw [e1]
      refine hc x _ _ _ ?_ e3 ?_
      · exact ih _ (by rw [List.length_drop, List.length_take]; omega) _ _ rfl (fun a ha => hw a (List.mem_of_mem_take (List.mem_of_mem_drop ha))) e3
      · refine ih _ (by rw [List.length_append, List.length_take, List.length_drop]; omega) _ _ rfl (fun a ha => ?_) ?_
        · rcases List.mem_append.mp ha with ha | ha
          · exact hw a (List.mem_of_mem_take ha)
          · exact hw a (List.mem_of_mem_drop ha)
        · rw [e1, en_app, en_app, e3] at he
          rw [en_app]
          exact he
theorem min_mem : ∀ {l : List Nat}, l ≠ [] → ∃ y ∈ l, ∀ z ∈ l, y ≤ z
  | [], h => absurd rfl h
  | [a], _ => ⟨a, by simp, by simp⟩
  | a :: b :: l, _ => by
    obtain ⟨y, h1, h2⟩ := min_mem (l := b :: l) (by simp)
    by_cases q : a ≤ y
    · refine ⟨a, by simp, fun z hz => ?_⟩
      rcases List.mem_cons.mp hz with rfl | hz
      · exact Nat.le_refl _
      · exact Nat.le_trans q (h2 z hz)
    · refine ⟨y, List.mem_cons_of_mem _ h1, fun z hz => ?_⟩
      rcases List.mem_cons.mp hz with rfl | hz
      · omega
      · exact h2 z hz
/-- a simple round walk, from its least state -/
theorem rot_least {s : Sy} {x : Nat} {w : List Nat} (hne : w ≠ []) (hw : ∀ h ∈ w, h ≤ 1) (he : en s x w = x) (nd : (sts s x w).Nodup) :
    ∃ y v r, (∃ a, (∀ h ∈ a, h ≤ 1) ∧ en s x a = y) ∧ v ≠ [] ∧ (∀ h ∈ v, h ≤ 1) ∧ en s y v = y ∧ sts s y v = y :: r ∧ r.Nodup ∧ (∀ z ∈ r, y < z) ∧ c0 s y v = c0 s x w ∧ ca s y v = ca s x w := by
  have hs : sts s x w ≠ [] := fun q => by
    have := sts_len s w x
    rw [q] at this
    exact hne (List.eq_nil_of_length_eq_zero this.symm)
  obtain ⟨y, hy, hm⟩ := min_mem hs
  obtain ⟨i, hi, e⟩ := List.getElem_of_mem hy
  rw [sts_len] at hi
  have e1 := sts_at s w x i hi
  rw [List.getElem?_eq_getElem (by rw [sts_len]; exact hi), e] at e1
  have e1 : y = en s x (w.take i) := Option.some.inj e1
  have ew : w = w.take i ++ w.drop i := (List.take_append_drop i w).symm
  generalize w.take i = a at *
  generalize hb : w.drop i = b at *
  have hbne : b ≠ [] := fun q => by
    rw [q] at hb
    have := List.drop_eq_nil_iff.mp hb
    omega
  have ha1 : ∀ h ∈ a, h ≤ 1 := fun h hh => hw h (by rw [ew]; exact List.mem_append_left _ hh)
  have hb1 : ∀ h ∈ b, h ≤ 1 := fun h hh => hw h (by rw [ew]; exact List.mem_append_right _ hh)
  subst e1
  rw [ew, en_app] at he
  have st : sts s x w = sts s x a ++ sts s (en s x a) b := by rw [ew, sts_app]
  have st2 : sts s (en s x a) (b ++ a) = sts s (en s x a) b ++ sts s x a := by rw [sts_app, he]
  obtain ⟨h0, b', rfl⟩ : ∃ h0 b', b = h0 :: b' := by
    cases b with
    | nil => exact absurd rfl hbne
    | cons h0 b' => exact ⟨h0, b', rfl⟩
  have sb : sts s (en s x a) (h0 :: b') = en s x a :: sts s (stp s h0 (en s x a)).1 b' := rfl
  have nd2 : (sts s (en s x a) (h0 :: b') ++ sts s x a).Nodup := by
    rw [st, List.nodup_append] at nd
    rw [List.nodup_append]
    exact ⟨nd.2.1, nd.1, fun p hp q hq => (nd.2.2 q hq p hp).symm⟩
  rw [sb, List.cons_append, List.nodup_cons] at nd2
  refine ⟨en s x a, (h0 :: b') ++ a, sts s (stp s h0 (en s x a)).1 b' ++ sts s x a, ⟨a, ha1, rfl⟩, by simp, fun h hh => ?_, by rw [en_app, he], by rw [st2, sb]; rfl, nd2.2, fun z hz => ?_, ?_, ?_⟩
  · rcases List.mem_append.mp hh with hh | hh
    · exact hb1 h hh
    · exact ha1 h hh
  · have h1 : en s x a ≤ z := hm z (by
      rw [st, sb]
      rcases List.mem_append.mp hz with hz | hz
      · exact List.mem_append_right _ (List.mem_cons_of_mem _ hz)
      · exact List.mem_append_left _ hz)
    have h2 : en s x a ≠ z := fun q => nd2.1 (q ▸ hz)
    omega
  · rw [ew, c0_app, c0_app, he]; omega
  · rw [ew, ca_app, ca_app, he]; omega

end Ev.k71

set_option Elab.async false
set_option linter.all false
set_option maxRecDepth 100000
set_option maxHeartbeats 4000000
namespace Ev.k71
open PySem Ev
/-! simple rounds, found in depth and by layers -/
abbrev RZ := Nat × List Nat × List Nat
def okT (st to : Nat) (met : List Nat) : Bool := decide (st < to) && decide (to ∉ met)
def fnH (s : Sy) (st : Nat) (z : RZ) (h : Nat) : List (List Nat) := if (stp s h z.1).1 = st then [z.2.1 ++ [h]] else []
def nxH (s : Sy) (st : Nat) (z : RZ) (h : Nat) : List RZ := if (stp s h z.1).1 = st then [] else if okT st (stp s h z.1).1 z.2.2 = true then [((stp s h z.1).1, z.2.1 ++ [h], z.2.2 ++ [(stp s h z.1).1])] else []
def fnd (s : Sy) (st : Nat) (z : RZ) : List (List Nat) := fnH s st z 0 ++ fnH s st z 1
def nxt (s : Sy) (st : Nat) (z : RZ) : List RZ := nxH s st z 0 ++ nxH s st z 1
def lr (s : Sy) (st : Nat) : Nat → RZ → List (List Nat)
  | 0, _ => []
  | f + 1, z => (fnH s st z 0 ++ (nxH s st z 0).flatMap (lr s st f)) ++ (fnH s st z 1 ++ (nxH s st z 1).flatMap (lr s st f))
theorem lr_perm (s : Sy) (st f : Nat) (z : RZ) : (lr s st (f + 1) z).Perm (fnd s st z ++ (nxt s st z).flatMap (lr s st f)) := by
  show ((fnH s st z 0 ++ (nxH s st z 0).flatMap (lr s st f)) ++ (fnH s st z 1 ++ (nxH s st z 1).flatMap (lr s st f))).Perm _
  unfold fnd nxt
  rw [List.flatMap_append]
  generalize fnH s st z 0 = A
  generalize fnH s st z 1 = B
  generalize (nxH s st z 0).flatMap (lr s st f) = C
  generalize (nxH s st z 1).flatMap (lr s st f) = D
  have h1 : ((A ++ C) ++ (B ++ D)).Perm (A ++ ((C ++ B) ++ D)) := by simp
  have h2 : (A ++ ((C ++ B) ++ D)).Perm (A ++ ((B ++ C) ++ D)) := ((List.perm_append_comm).append_right D).append_left A
  have h3 : (A ++ ((B ++ C) ++ D)).Perm ((A ++ B) ++ (C ++ D)) := by simp
  exact h1.trans (h2.trans h3)
theorem lr_perms (s : Sy) (st f : Nat) : ∀ L : List RZ, (L.flatMap (lr s st (f + 1))).Perm (L.flatMap (fnd s st) ++ (L.flatMap (nxt s st)).flatMap (lr s st f))
  | [] => List.Perm.refl _
  | z :: L => by
    rw [List.flatMap_cons, List.flatMap_cons, List.flatMap_cons, List.flatMap_append]
    have h1 := (lr_perm s st f z).append (lr_perms s st f L)
    refine h1.trans ?_
    generalize fnd s st z = A
    generalize (nxt s st z).flatMap (lr s st f) = C
    generalize L.flatMap (fnd s st) = B
    generalize (L.flatMap (nxt s st)).flatMap (lr s st f) = D
    have h1 : ((A ++ C) ++ (B ++ D)).Perm (A ++ ((C ++ B) ++ D)) := by simp
    have h2 : (A ++ ((C ++ B) ++ D)).Perm (A ++ ((B ++ C) ++ D)) := ((List.perm_append_comm).append_right D).append_left A
    have h3 : (A ++ ((B ++ C) ++ D)).Perm ((A ++ B) ++ (C ++ D)) := by simp
    exact h1.trans (h2.trans h3)
/-- what a place of the search holds -/
structure ZOk (s : Sy) (d : Nat) (z : RZ) : Prop where
  lt : z.1 < s.length
  wl : z.2.1.length = d
  w1 : ∀ h ∈ z.2.1, h ≤ 1
  ml : z.2.2.length = d + 1
  nd : z.2.2.Nodup
  ms : ∀ x ∈ z.2.2, x < s.length
theorem ZOk.d {s : Sy} {d : Nat} {z : RZ} (o : ZOk s d z) : d + 1 ≤ s.length := by
  have := nodup_le o.nd o.ms
  rw [o.ml] at this
  exact this
theorem ZOk.nx {s : Sy} (ok : SyOk s) {st d : Nat} {z : RZ} (o : ZOk s d z) {h : Nat} (hh : h ≤ 1) : ∀ y ∈ nxH s st z h, ZOk s (d + 1) y := fun y hy => by
  unfold nxH at hy
  split at hy
  · cases hy
  · split at hy
    · rename_i q
      rw [List.mem_singleton.mp hy]
      unfold okT at q
      rw [Bool.and_eq_true] at q
      have q2 := of_decide_eq_true q.2
      have lt := (stp_ok ok o.lt h).1
      refine ⟨lt, by simp [o.wl], fun a ha => ?_, by simp [o.ml], ?_, fun a ha => ?_⟩
      · rcases List.mem_append.mp ha with ha | ha
        · exact o.w1 a ha
        · rw [List.mem_singleton.mp ha]; exact hh
      · rw [List.nodup_append]
        exact ⟨o.nd, by simp, fun a ha b hb => by rw [List.mem_singleton.mp hb]; exact fun e => q2 (e ▸ ha)⟩
      · rcases List.mem_append.mp ha with ha | ha
        · exact o.ms a ha
        · rw [List.mem_singleton.mp ha]; exact lt
    · cases hy
theorem nxt_ok {s : Sy} (ok : SyOk s) {st d : Nat} {L : List RZ} (h : ∀ z ∈ L, ZOk s d z) : ∀ y ∈ L.flatMap (nxt s st), ZOk s (d + 1) y := fun y hy => by
  obtain ⟨z, hz, hy⟩ := List.mem_flatMap.mp hy
  rcases List.mem_append.mp hy with hy | hy
  · exact (h z hz).nx ok (by omega) y hy
  · exact (h z hz).nx ok (by omega) y hy
theorem fnH_len (s : Sy) (st : Nat) (z : RZ) (h : Nat) : (fnH s st z h).length ≤ 1 := by unfold fnH; split <;> simp
theorem nxH_len (s : Sy) (st : Nat) (z : RZ) (h : Nat) : (nxH s st z h).length ≤ 1 := by unfold nxH; split <;> (try split) <;> simp
theorem fl_len {α β : Type} (f : α → List β) (n : Nat) : ∀ l : List α, (∀ x ∈ l, (f x).length ≤ n) → (l.flatMap f).length ≤ l.length * n
  | [], _ => by simp
  | x :: l, h => by
    rw [List.flatMap_cons, List.length_append, List.length_cons, Nat.succ_mul]
    have h1 := h x List.mem_cons_self
    have h2 := fl_len f n l fun y hy => h y (List.mem_cons_of_mem _ hy)
    omega
theorem lr_len (s : Sy) (st : Nat) : ∀ (f : Nat) (z : RZ), (lr s st f z).length ≤ 2 ^ (f + 1)
  | 0, _ => by show 0 ≤ _; omega
  | f + 1, z => by
    show ((fnH s st z 0 ++ (nxH s st z 0).flatMap (lr s st f)) ++ (fnH s st z 1 ++ (nxH s st z 1).flatMap (lr s st f))).length ≤ _
    have key : ∀ h, (fnH s st z h ++ (nxH s st z h).flatMap (lr s st f)).length ≤ 2 ^ (f + 1) := fun h => by
      unfold fnH nxH
      split
      · simp
        exact Nat.one_le_two_pow
      · split
        · simpa using lr_len s st f _
        · simp
    rw [List.length_append]
    have h0 := key 0
    have h1 := key 1
    have : (2 : Nat) ^ (f + 1 + 1) = 2 ^ (f + 1) + 2 ^ (f + 1) := by rw [Nat.pow_succ]; omega
    omega
/-- a simple round walk is found -/
theorem lr_mem {s : Sy} {st : Nat} : ∀ (r : List Nat) (f here : Nat) (w met : List Nat), r ≠ [] → r.length ≤ f → (∀ h ∈ r, h ≤ 1) → en s here r = st → (∀ z ∈ (sts s here r).tail, st < z ∧ z ∉ met) → (sts s here r).tail.Nodup → w ++ r ∈ lr s st f (here, w, met)
  | [], _, _, _, _, h, _, _, _, _, _ => absurd rfl h
  | [h], f, here, w, met, _, hf, h1, he, _, _ => by
    cases f with
    | zero => simp at hf
    | succ f =>
      have he : (stp s h here).1 = st := he
      have m : w ++ [h] ∈ fnH s st (here, w, met) h := by unfold fnH; rw [if_pos he]; simp
      have hh : h = 0 ∨ h = 1 := by have := h1 h (by simp); omega
      show _ ∈ (fnH s st (here, w, met) 0 ++ (nxH s st (here, w, met) 0).flatMap (lr s st f)) ++ (fnH s st (here, w, met) 1 ++ (nxH s st (here, w, met) 1).flatMap (lr s st f))
      rcases hh with rfl | rfl
      · exact List.mem_append_left _ (List.mem_append_left _ m)
      · exact List.mem_append_right _ (List.mem_append_left _ m)
  | h :: h2 :: r, f, here, w, met, _, hf, h1, he, ht, nd => by
    cases f with
    | zero => simp at hf
    | succ f =>
      have tl : (sts s here (h :: h2 :: r)).tail = (stp s h here).1 :: (sts s (stp s h here).1 (h2 :: r)).tail := rfl
      rw [tl] at ht nd
      obtain ⟨t1, t2⟩ := ht _ List.mem_cons_self
      rw [List.nodup_cons] at nd
      have m : w ++ h :: h2 :: r ∈ (nxH s st (here, w, met) h).flatMap (lr s st f) := by
        have e : nxH s st (here, w, met) h = [((stp s h here).1, w ++ [h], met ++ [(stp s h here).1])] := by
          unfold nxH
          rw [if_neg (show ¬ (stp s h here).1 = st by omega), if_pos (show okT st (stp s h here).1 met = true by unfold okT; rw [decide_eq_true t1, decide_eq_true t2]; rfl)]
        rw [e, List.flatMap_singleton]
        have := lr_mem (h2 :: r) f (stp s h here).1 (w ++ [h]) (met ++ [(stp s h here).1]) (by simp) (by simpa using hf) (fun a ha => h1 a (List.mem_cons_of_mem _ ha)) he (fun z hz => by
          obtain ⟨a, b⟩ := ht z (List.mem_cons_of_mem _ hz)
          refine ⟨a, fun q => ?_⟩
          rcases List.mem_append.mp q with q | q
          · exact b q
          · rw [List.mem_singleton.mp q] at hz; exact nd.1 hz) nd.2
        simpa using this
      have hh : h = 0 ∨ h = 1 := by have := h1 h (by simp); omega
      show _ ∈ (fnH s st (here, w, met) 0 ++ (nxH s st (here, w, met) 0).flatMap (lr s st f)) ++ (fnH s st (here, w, met) 1 ++ (nxH s st (here, w, met) 1).flatMap (lr s st f))
      rcases hh with rfl | rfl
      · exact List.mem_append_left _ (List.mem_append_right _ m)
      · exact List.mem_append_right _ (List.mem_append_right _ m)
/-- all simple rounds, the law's order -/
def rdsL (s : Sy) : List (Nat × List Nat) := (List.range s.length).flatMap fun st => (lr s st s.length (st, [], [st])).map fun w => (st, w)
/-- a round of the list is a walk of at most so many steps -/
theorem lr_ok {s : Sy} (ok : SyOk s) (st : Nat) : ∀ (f d : Nat) (z : RZ), ZOk s d z → ∀ w ∈ lr s st f z, w ≠ [] ∧ w.length ≤ s.length ∧ ∀ h ∈ w, h ≤ 1
  | 0, _, _, _, w, hw => nomatch hw
  | f + 1, d, z, o, w, hw => by
    have key : ∀ h, h ≤ 1 → w ∈ fnH s st z h ++ (nxH s st z h).flatMap (lr s st f) → w ≠ [] ∧ w.length ≤ s.length ∧ ∀ h ∈ w, h ≤ 1 := fun h hh m => by
      rcases List.mem_append.mp m with m | m
      · unfold fnH at m
        split at m
        · rw [List.mem_singleton.mp m]
          refine ⟨by simp, by have := o.d; simp [o.wl]; omega, fun a ha => ?_⟩
          rcases List.mem_append.mp ha with ha | ha
          · exact o.w1 a ha
          · rw [List.mem_singleton.mp ha]; exact hh
        · cases m
      · obtain ⟨y, hy, m⟩ := List.mem_flatMap.mp m
        exact lr_ok ok st f (d + 1) y (o.nx ok hh y hy) w m
    rcases List.mem_append.mp (show w ∈ (fnH s st z 0 ++ (nxH s st z 0).flatMap (lr s st f)) ++ (fnH s st z 1 ++ (nxH s st z 1).flatMap (lr s st f)) from hw) with m | m
    · exact key 0 (by omega) m
    · exact key 1 (by omega) m
theorem z0_ok {s : Sy} {st : Nat} (h : st < s.length) : ZOk s 0 (st, [], [st]) := ⟨h, rfl, by simp, rfl, by simp, by simpa using h⟩
theorem rdsL_ok {s : Sy} (ok : SyOk s) : ∀ z ∈ rdsL s, z.1 < s.length ∧ z.2 ≠ [] ∧ z.2.length ≤ s.length ∧ ∀ h ∈ z.2, h ≤ 1 := fun z hz => by
  obtain ⟨st, h1, h2⟩ := List.mem_flatMap.mp hz
  have h1 := List.mem_range.mp h1
  obtain ⟨w, hw, rfl⟩ := List.mem_map.mp h2
  exact ⟨h1, lr_ok ok st _ 0 _ (z0_ok h1) w hw⟩
theorem rdsL_len {s : Sy} (ok : SyOk s) : (rdsL s).length ≤ 6 * 128 := by
  have := fl_len (fun st => (lr s st s.length (st, [], [st])).map fun w => (st, w)) 128 (List.range s.length) fun st _ => by
    rw [List.length_map]
    have := lr_len s st s.length (st, [], [st])
    have h2 : 2 ^ (s.length + 1) ≤ 2 ^ 7 := Nat.pow_le_pow_right (by omega) (by have := ok.most; omega)
    omega
  rw [List.length_range] at this
  have h6 := ok.most
  have := Nat.mul_le_mul_right 128 h6
  unfold rdsL
  omega
/-- each simple round walk, from its least state, is there -/
theorem rdsL_mem {s : Sy} (ok : SyOk s) {y : Nat} {v r : List Nat} (hy : y < s.length) (hne : v ≠ []) (h1 : ∀ h ∈ v, h ≤ 1) (he : en s y v = y) (hs : sts s y v = y :: r) (nd : r.Nodup) (hm : ∀ z ∈ r, y < z) : (y, v) ∈ rdsL s := by
  refine List.mem_flatMap.mpr ⟨y, List.mem_range.mpr hy, List.mem_map.mpr ⟨v, ?_, rfl⟩⟩
  have hl : v.length ≤ s.length := by
    have e := sts_len s v y
    rw [← e]
    refine nodup_le (n := s.length) ?_ (sts_lt ok v hy)
    rw [hs, List.nodup_cons]
    exact ⟨fun q => Nat.lt_irrefl _ (hm y q), nd⟩
  have := lr_mem (s := s) (st := y) v s.length y [] [y] hne hl h1 he (fun z hz => by
    rw [hs] at hz
    have := hm z hz
    exact ⟨this, by simp; omega⟩) (by rw [hs]; exact nd)
  simpa using this

end Ev.k71

set_option Elab.async false
set_option linter.all false
set_option maxRecDepth 100000
set_option maxHeartbeats 4000000
namespace Ev.k71
open PySem Ev
/-! what walks lead to, as the program and the law find it -/
theorem ix_natsL {l : List Nat} {i y : Nat} (h : l[i]? = some y) : ixD (.lst (natsD l)) (.int (i : Nat)) = some (.int (y : Nat)) := by
  rw [ix_lst]
  unfold natsD
  rw [List.getElem?_map, h]; rfl
theorem in_natsL (x : Nat) (l : List Nat) : inD (.int (x : Nat)) (.lst (natsD l)) = some (decide (x ∈ l)) := enc_in' Enc.nat (by decide) x l
theorem in_natsT (x : Nat) (l : List Nat) : inD (.int (x : Nat)) (.tup (natsD l)) = some (decide (x ∈ l)) := enc_inT' Enc.nat (by decide) x l
def gA (l : List Nat) (y : Nat) : List Nat := if y ∈ l then l else l ++ [y]
theorem gA_mem (l : List Nat) (y z : Nat) : z ∈ gA l y ↔ z ∈ l ∨ z = y := by
  unfold gA
  split
  · rename_i h
    exact ⟨.inl, fun q => q.elim id fun e => e ▸ h⟩
  · simp
theorem gA_nd {l : List Nat} (h : l.Nodup) (y : Nat) : (gA l y).Nodup := by
  unfold gA
  split
  · exact h
  · rename_i q
    rw [List.nodup_append]
    exact ⟨h, by simp, fun a ha b hb => by rw [List.mem_singleton.mp hb]; exact fun e => q (e ▸ ha)⟩
theorem gA_at {l : List Nat} {i x : Nat} (h : l[i]? = some x) (y : Nat) : (gA l y)[i]? = some x := by
  unfold gA
  split
  · exact h
  · rw [List.getElem?_append_left (List.getElem?_eq_some_iff.mp h).1]; exact h
theorem gA_len (l : List Nat) (y : Nat) : l.length ≤ (gA l y).length := by unfold gA; split <;> simp
abbrev reE (s : Sy) (x : Nat) (l : List Nat) (p : Nat) (a b : Sl) : Env := [.v (syD s), .v (.int (x : Nat)), .ow false (.lst (natsD l)), .v (.int (p : Nat)), a, b]
theorem reached_turn {cf : CF} {s : Sy} {x : Nat} {l : List Nat} {p y h : Nat} (hp : l[p]? = some y) (hy : y < s.length) (hh : h ≤ 1) (hl : l.length < 1000) :
    turnF (fun d => asgT (.nm 4) (.v d)) (evB tb cf lb_reached_1) (.int (h : Nat)) (reE s x l p .un .un) = some (.nx (reE s x (gA l (stp s h y).1) p .un .un)) := by
  have tf : turnF (fun d => asgT (.nm 4) (.v d)) (evB tb cf lb_reached_1) (.int (h : Nat)) (reE s x l p .un .un) = (match evB tb cf lb_reached_1 (reE s x l p (.v (.int (h : Nat))) .un) with
    | some (.ct e) => some (.nx e)
    | r => r) := rfl
  rw [tf]
  obtain ⟨r, r1, r2⟩ := stp_at hy hh
  have e1 := ix_natsL hp
  have e2 := in_natsL (stp s h y).1 l
  have hl' : (natsD l).length < 16777216 := by rw [natsD_len]; omega
  have ap : natsD l ++ [.int ((stp s h y).1 : Nat)] = natsD (l ++ [(stp s h y).1]) := by rw [natsD_app]; rfl
  have e3 : ixD (stD (stp s h y)) (.int 0) = some (.int ((stp s h y).1 : Nat)) := rfl
  have : evB tb cf lb_reached_1 (reE s x l p (.v (.int (h : Nat))) .un) = some (.nx (reE s x (gA l (stp s h y).1) p .un .un)) := by
    simp only [reE]
    generalize syD s = SD at *
    generalize stD (stp s h y) = ST at *
    generalize (stp s h y).1 = to at *
    unfold gA
    by_cases q : to ∈ l
    · rw [if_pos q]
      rw [decide_eq_true q] at e2
      generalize natsD l = LD at *
      unfold lb_reached_1
      ((first | refine isRt_seq (e := ?_) ?_ ?_ | refine eqB_seq (e := ?_) ?_ ?_ | refine isDr_seq (e := ?_) ?_ ?_ | refine isEx_seq (e := ?_) ?_ ?_ | refine outRt_seq (e := ?_) ?_ ?_); rotate_left; focus (simp [e1, r1, r2, e3] <;> exact rfl))
      ((first | refine isRt_seq (e := ?_) ?_ ?_ | refine eqB_seq (e := ?_) ?_ ?_ | refine isDr_seq (e := ?_) ?_ ?_ | refine isEx_seq (e := ?_) ?_ ?_ | refine outRt_seq (e := ?_) ?_ ?_); rotate_left; focus (simp [e2] <;> exact rfl))
      (first | refine isRt_frz rfl ?_ | refine eqB_frz rfl ?_ | refine isDr_frz rfl ?_ | refine isEx_frz rfl ?_ | refine outRt_frz rfl ?_ | refine isRt_clr rfl ?_ | refine eqB_clr rfl ?_ | refine isDr_clr rfl ?_)
      rfl
    · rw [if_neg q]
      rw [decide_eq_false q] at e2
      simp only [← ap]
      generalize natsD l = LD at *
      unfold lb_reached_1
      ((first | refine isRt_seq (e := ?_) ?_ ?_ | refine eqB_seq (e := ?_) ?_ ?_ | refine isDr_seq (e := ?_) ?_ ?_ | refine isEx_seq (e := ?_) ?_ ?_ | refine outRt_seq (e := ?_) ?_ ?_); rotate_left; focus (simp [e1, r1, r2, e3] <;> exact rfl))
      ((first | refine isRt_seq (e := ?_) ?_ ?_ | refine eqB_seq (e := ?_) ?_ ?_ | refine isDr_seq (e := ?_) ?_ ?_ | refine isEx_seq (e := ?_) ?_ ?_ | refine outRt_seq (e := ?_) ?_ ?_); rotate_left; focus (simp [e2, hl'] <;> exact rfl))
      (first | refine isRt_frz rfl ?_ | refine eqB_frz rfl ?_ | refine isDr_frz rfl ?_ | refine isEx_frz rfl ?_ | refine outRt_frz rfl ?_ | refine isRt_clr rfl ?_ | refine eqB_clr rfl ?_ | refine isDr_clr rfl ?_)
      rfl
  rw [this]
structure RcI (s : Sy) (x : Nat) (z : List Nat × Nat) : Prop where
  nd : z.1.Nodup
  st : x ∈ z.1
  rc : ∀ y ∈ z.1, Rch s x y
  le : z.2 ≤ z.1.length
  cl : ∀ i y, i < z.2 → z.1[i]? = some y → ∀ h, h ≤ 1 → (stp s h y).1 ∈ z.1
theorem RcI.len {s : Sy} (ok : SyOk s) {x : Nat} (hx : x < s.length) {z : List Nat × Nat} (r : RcI s x z) : z.1.length ≤ s.length := nodup_le r.nd fun y hy => (r.rc y hy).lt ok hx
theorem reached_lp {cf : CF} {s : Sy} (ok : SyOk s) {x : Nat} (hx : x < s.length) : ∃ l : List Nat, l.Nodup ∧ (∀ y, y ∈ l ↔ Rch s x y) ∧ evS tb cf lp_reached_4 (reE s x [x] 0 .un .un) = some (.nx (reE s x l l.length .un .un)) := by
  refine whl_by (fun z : List Nat × Nat => reE s x z.1 z.2 .un .un) (RcI s x) (fun z => 7 - z.2) (fun o => ∃ l : List Nat, l.Nodup ∧ (∀ y, y ∈ l ↔ Rch s x y) ∧ o = some (.nx (reE s x l l.length .un .un))) ([x], 0) ⟨by simp, by simp, fun y hy => by rw [List.mem_singleton.mp hy]; exact .refl s x, by simp, fun i y hi => absurd hi (by simp)⟩ (by omega) ?_
  rintro ⟨l, p⟩ r
  have hl := r.len ok hx
  have h6 := ok.most
  simp only at hl
  by_cases q : p < l.length
  · right
    have hp : l[p]? = some l[p] := List.getElem?_eq_getElem q
    have hy : l[p] < s.length := (r.rc _ (List.getElem_mem q)).lt ok hx
    have q' : (p : Int) < l.length := by omega
    refine ⟨reE s x l p .un .un, ?_, .inl ⟨(gA (gA l (stp s 0 l[p]).1) (stp s 1 l[p]).1, p + 1), .inl ?_, ?_, ?_⟩⟩
    · have tl : (natsD l).length = l.length := natsD_len l
      simp only [reE]
      generalize syD s = SD
      generalize natsD l = LD at *
      simp [tl, q]
    · have t1 := reached_turn (cf := cf) (s := s) (x := x) hp hy (h := 0) (by omega) (by omega)
      have t2 := reached_turn (cf := cf) (s := s) (x := x) (l := gA l (stp s 0 l[p]).1) (p := p) (gA_at hp _) hy (h := 1) (by omega) (by
        unfold gA; split
        · omega
        · simp; omega)
      have lp : evS tb cf lp_reached_2 (reE s x l p .un .un) = some (.nx (reE s x (gA (gA l (stp s 0 l[p]).1) (stp s 1 l[p]).1) p .un .un)) := by
        unfold lp_reached_2
        rw [loop_u (ds := [.int 0, .int 1]) (e1 := reE s x l p .un .un) (by simp), forL_c]
        have t1 : turnF (fun d => asgT (.nm 4) (.v d)) (evB tb cf lb_reached_1) (.int 0) (reE s x l p .un .un) = _ := t1
        rw [t1]
        show forL _ _ [.int 1] (reE s x (gA l (stp s 0 l[p]).1) p .un .un) = _
        rw [forL_c]
        have t2 : turnF (fun d => asgT (.nm 4) (.v d)) (evB tb cf lb_reached_1) (.int 1) (reE s x (gA l (stp s 0 l[p]).1) p .un .un) = _ := t2
        rw [t2]
        rfl
      unfold lb_reached_3
      refine eqB_seq lp ?_
      have e3 : ((p + 1 : Nat) : Int) = p + 1 := by omega
      simp only [reE, e3]
      generalize syD s = SD
      generalize natsD _ = LD
      simp
    · have m1 := gA_mem l (stp s 0 l[p]).1
      have m2 := gA_mem (gA l (stp s 0 l[p]).1) (stp s 1 l[p]).1
      have rp := r.rc _ (List.getElem_mem q)
      refine ⟨gA_nd (gA_nd r.nd _) _, (m2 _).mpr (.inl ((m1 _).mpr (.inl r.st))), fun y hy => ?_, ?_, fun i y hi hy h hh => ?_⟩
      · rcases (m2 _).mp hy with hy | rfl
        · rcases (m1 _).mp hy with hy | rfl
          · exact r.rc y hy
          · exact rp.step (by omega)
        · exact rp.step (by omega)
      · have a := gA_len l (stp s 0 l[p]).1
        have b := gA_len (gA l (stp s 0 l[p]).1) (stp s 1 l[p]).1
        show p + 1 ≤ (gA (gA l (stp s 0 l[p]).1) (stp s 1 l[p]).1).length
        omega
      · by_cases z : i < p
        · have hil : i < l.length := by omega
          have e := gA_at (gA_at (List.getElem?_eq_getElem hil) (stp s 0 l[p]).1) (stp s 1 l[p]).1
          simp only at hy
          rw [hy] at e
          rw [Option.some.inj e]
          exact (m2 _).mpr (.inl ((m1 _).mpr (.inl (r.cl i _ z (List.getElem?_eq_getElem hil) h hh))))
        · have z : i = p := by simp only at hi; omega
          subst z
          have e := gA_at (gA_at hp (stp s 0 l[i]).1) (stp s 1 l[i]).1
          simp only at hy
          rw [hy] at e
          rw [Option.some.inj e]
          rcases Nat.le_one_iff_eq_zero_or_eq_one.mp hh with rfl | rfl
          · exact (m2 _).mpr (.inl ((m1 _).mpr (.inr rfl)))
          · exact (m2 _).mpr (.inr rfl)
    · show 7 - (p + 1) < 7 - p
      omega
  · left
    have e : p = l.length := by have := r.le; simp only at this; omega
    subst e
    have q' : ¬ (l.length : Int) < l.length := by omega
    refine ⟨reE s x l l.length .un .un, ?_, l, r.nd, fun y => ⟨r.rc y, ?_⟩, rfl⟩
    · have tl : (natsD l).length = l.length := natsD_len l
      simp only [reE]
      generalize syD s = SD
      generalize natsD l = LD at *
      simp [tl]
    · rintro ⟨w, h1, rfl⟩
      have key : ∀ (w : List Nat) (y : Nat), y ∈ l → (∀ h ∈ w, h ≤ 1) → en s y w ∈ l := by
        intro w
        induction w with
        | nil => intro y hy _; exact hy
        | cons h w ih =>
          intro y hy hw
          obtain ⟨i, hi, e⟩ := List.getElem_of_mem hy
          refine ih _ (r.cl i y hi (by rw [← e]; exact List.getElem?_eq_getElem hi) h (hw h List.mem_cons_self)) fun a ha => hw a (List.mem_cons_of_mem _ ha)
      exact key w x r.st h1
theorem reached_ok {k : Nat} {s : Sy} (ok : SyOk s) {x : Nat} (hx : x < s.length) : ∃ l : List Nat, l.Nodup ∧ (∀ y, y ∈ l ↔ Rch s x y) ∧ callV (callF tb (k+1)) f_reached [syD s, .int (x : Nat)] = ret (.fr (.lst (natsD l))) := by
  obtain ⟨l, h1, h2, lp⟩ := reached_lp (cf := callF tb k) ok hx
  refine ⟨l, h1, h2, run_reached (r := .fr _) ?_⟩
  have e0 : reE s x [x] 0 .un .un = [.v (syD s), .v (.int (x : Nat)), .ow false (.lst [.int (x : Nat)]), .v (.int 0), .un, .un] := rfl
  rw [e0] at lp
  simp only [reE] at lp
  generalize syD s = SD at *
  generalize natsD l = LD at *
  unfold b_reached
  ((first | refine isRt_seq (e := ?_) ?_ ?_ | refine eqB_seq (e := ?_) ?_ ?_ | refine isDr_seq (e := ?_) ?_ ?_ | refine isEx_seq (e := ?_) ?_ ?_ | refine outRt_seq (e := ?_) ?_ ?_); rotate_left; focus (simp [] <;> exact rfl))
  ((first | refine isRt_seq (e := ?_) ?_ ?_ | refine eqB_seq (e := ?_) ?_ ?_ | refine isDr_seq (e := ?_) ?_ ?_ | refine isEx_seq (e := ?_) ?_ ?_ | refine outRt_seq (e := ?_) ?_ ?_); rotate_left; focus (simp [lp] <;> exact rfl))
  simp
theorem ssI_nat (l : List Nat) : ∃ m : List Nat, m.Nodup ∧ (∀ y, y ∈ m ↔ y ∈ l) ∧ (ssI (l.map fun (n : Nat) => (n : Int))).map D.int = natsD m := by
  have nn : ∀ y ∈ ssI (l.map fun (n : Nat) => (n : Int)), ∃ n : Nat, y = n ∧ n ∈ l := fun y hy => by
    obtain ⟨n, hn, e⟩ := List.mem_map.mp (ssI_mem.mp hy)
    exact ⟨n, e.symm, hn⟩
  refine ⟨(ssI (l.map fun (n : Nat) => (n : Int))).map Int.toNat, ?_, fun y => ?_, ?_⟩
  · rw [List.nodup_iff_pairwise_ne, List.pairwise_map]
    refine (ssI_sorted (l := l.map fun (n : Nat) => (n : Int))).imp_of_mem fun {a b} ha hb hab => ?_
    obtain ⟨n, rfl, _⟩ := nn a ha
    obtain ⟨m, rfl, _⟩ := nn b hb
    simp only [Int.toNat_natCast]
    omega
  · rw [List.mem_map]
    constructor
    · rintro ⟨z, hz, rfl⟩
      obtain ⟨n, rfl, hn⟩ := nn z hz
      simpa using hn
    · intro h
      exact ⟨(y : Int), ssI_mem.mpr (List.mem_map.mpr ⟨y, h, rfl⟩), by simp⟩
  · unfold natsD
    rw [List.map_map]
    refine List.map_congr_left fun z hz => ?_
    obtain ⟨n, rfl, _⟩ := nn z hz
    simp
theorem intsD_nats : ∀ l : List Nat, intsD (natsD l) = some (l.map fun (n : Nat) => (n : Int))
  | [] => rfl
  | x :: l => by
    show (intsD (natsD l)).map (((x : Nat) : Int) :: ·) = _
    rw [intsD_nats l]; rfl
theorem sset_nats {l : List Nat} (h : l.length < 64) : ∃ m : List Nat, m.Nodup ∧ (∀ y, y ∈ m ↔ y ∈ l) ∧ ssetD (.lst (natsD l)) = some (.fr (.lst (natsD m))) := by
  obtain ⟨m, h1, h2, h3⟩ := ssI_nat l
  refine ⟨m, h1, h2, ?_⟩
  show (match intsD (natsD l) with
    | some ns => if ns.length < 64 then some (PR.fr (.lst ((ssI ns).map D.int))) else none
    | none => none) = _
  rw [intsD_nats]
  simp only [List.length_map]
  rw [if_pos h, h3]
theorem lreach_lc1 {cf : CF} {s : Sy} {m : List Nat} (hm : ∀ y ∈ m, y < s.length) (hl : m.length ≤ 1000) {x t : Sl} {F : Sl} (hF : F = .ow false (.lst (natsD m)) ∨ F = .v (.lst (natsD m))) : (ev tb cf lc_law_reached_1).1 [.v (syD s), x, F, t, .un] = some (.ok (.fr (.lst (natsD (m.map fun y => (stp s 0 y).1)))) [.v (syD s), x, .v (.lst (natsD m)), t, .un]) := by
  unfold natsD
  rw [List.map_map]
  refine lc_mp m (fun (n : Nat) => .int n) (fun y => .int ((stp s 0 y).1 : Nat)) (e1 := [.v (syD s), x, .v (.lst (natsD m)), t, .un]) ?_ (by omega) fun y hy => ?_
  · rcases hF with rfl | rfl <;> simp [natsD]
  · obtain ⟨r, r1, r2⟩ := stp_at (hm y hy) (h := 0) (by omega)
    have r2 : ixD r (.int 0) = some (stD (stp s 0 y)) := r2
    have e3 : ixD (stD (stp s 0 y)) (.int 0) = some (.int ((stp s 0 y).1 : Nat)) := rfl
    generalize syD s = SD at *
    generalize stD (stp s 0 y) = ST at *
    simp [r1, r2, e3]
theorem lreach_lc2 {cf : CF} {s : Sy} {m : List Nat} (hm : ∀ y ∈ m, y < s.length) (hl : m.length ≤ 1000) {x t : Sl} : (ev tb cf lc_law_reached_2).1 [.v (syD s), x, .v (.lst (natsD m)), t, .un] = some (.ok (.fr (.lst (natsD (m.map fun y => (stp s 1 y).1)))) [.v (syD s), x, .v (.lst (natsD m)), t, .un]) := by
  unfold natsD
  rw [List.map_map]
  refine lc_mp m (fun (n : Nat) => .int n) (fun y => .int ((stp s 1 y).1 : Nat)) (e1 := [.v (syD s), x, .v (.lst (natsD m)), t, .un]) ?_ (by omega) fun y hy => ?_
  · simp [natsD]
  · obtain ⟨r, r1, r2⟩ := stp_at (hm y hy) (h := 1) (by omega)
    have r2 : ixD r (.int 1) = some (stD (stp s 1 y)) := r2
    have e3 : ixD (stD (stp s 1 y)) (.int 0) = some (.int ((stp s 1 y).1 : Nat)) := rfl
    generalize syD s = SD at *
    generalize stD (stp s 1 y) = ST at *
    simp [r1, r2, e3]
def RcN (s : Sy) (x n y : Nat) : Prop := ∃ w : List Nat, (∀ h ∈ w, h ≤ 1) ∧ en s x w = y ∧ w.length ≤ n
theorem RcN.step {s : Sy} {x n y h : Nat} (r : RcN s x n y) (hh : h ≤ 1) : RcN s x (n + 1) (stp s h y).1 := by
  obtain ⟨w, h1, rfl, h3⟩ := r
  exact ⟨w ++ [h], fun a ha => by
    rcases List.mem_append.mp ha with ha | ha
    · exact h1 a ha
    · rw [List.mem_singleton.mp ha]; exact hh, en_app s w [h] x, by simp; exact h3⟩
theorem RcN.inv {s : Sy} {x n y : Nat} (r : RcN s x (n + 1) y) : RcN s x n y ∨ ∃ z h, h ≤ 1 ∧ RcN s x n z ∧ (stp s h z).1 = y := by
  obtain ⟨w, h1, rfl, h3⟩ := r
  by_cases q : w.length ≤ n
  · exact .inl ⟨w, h1, rfl, q⟩
  · have hne : w ≠ [] := fun z => by rw [z] at q; exact q (Nat.zero_le _)
    obtain ⟨u, h, rfl⟩ : ∃ u h, w = u ++ [h] := ⟨w.dropLast, w.getLast hne, (List.dropLast_concat_getLast hne).symm⟩
    refine .inr ⟨en s x u, h, h1 h (by simp), ⟨u, fun a ha => h1 a (List.mem_append_left _ ha), rfl, by simpa using h3⟩, (en_app s u [h] x).symm⟩
theorem law_reached_ok {k : Nat} {s : Sy} (ok : SyOk s) {x : Nat} (hx : x < s.length) : ∃ l : List Nat, l.Nodup ∧ (∀ y, y ∈ l ↔ Rch s x y) ∧ callV (callF tb (k+1)) f_law_reached [syD s, .int (x : Nat)] = ret (.fr (.lst (natsD l))) := by
  have h6 := ok.most
  obtain ⟨m, lp, nd, hm⟩ := for_pre (as := fun d => asgT (.nm 3) (.v d)) (body := evB tb (callF tb k) lb_law_reached_3) rwD (fun m : List Nat => [.v (syD s), .v (.int (x : Nat)), .ow false (.lst (natsD m)), .un, .un]) (fun pre m => m.Nodup ∧ ∀ y, y ∈ m ↔ RcN s x pre.length y) s [x] ⟨by simp, fun y => by
      rw [List.mem_singleton]
      constructor
      · rintro rfl; exact ⟨[], by simp, rfl, by simp⟩
      · rintro ⟨w, _, h2, h3⟩
        rw [List.eq_nil_of_length_eq_zero (Nat.le_zero.mp h3)] at h2
        exact h2.symm⟩ fun pre p post m e ⟨nd, hm⟩ => by
    have lt : ∀ y ∈ m, y < s.length := fun y hy => by
      obtain ⟨w, h1, h2, _⟩ := (hm y).mp hy
      exact Rch.lt ok hx ⟨w, h1, h2⟩
    have hl := nodup_le nd lt
    have l1 := lreach_lc1 (cf := callF tb k) lt (by omega) (x := .v (.int (x : Nat))) (t := .v (rwD p)) (F := .ow false (.lst (natsD m))) (.inl rfl)
    have l2 := lreach_lc2 (cf := callF tb k) lt (by omega) (x := .v (.int (x : Nat))) (t := .v (rwD p))
    obtain ⟨m', a1, a2, a3⟩ := sset_nats (l := (m ++ m.map fun y => (stp s 0 y).1) ++ m.map fun y => (stp s 1 y).1) (by simp; omega)
    rw [natsD_app, natsD_app] at a3
    refine ⟨m', ?_, a1, fun y => ?_⟩
    · have tf : turnF (fun d => asgT (.nm 3) (.v d)) (evB tb (callF tb k) lb_law_reached_3) (rwD p) [.v (syD s), .v (.int (x : Nat)), .ow false (.lst (natsD m)), .un, .un] = (match evB tb (callF tb k) lb_law_reached_3 [.v (syD s), .v (.int (x : Nat)), .ow false (.lst (natsD m)), .v (rwD p), .un] with
        | some (.ct e) => some (.nx e)
        | r => r) := rfl
      rw [tf]
      have b1 : binD .Add (.lst (natsD m)) (.lst (natsD (m.map fun y => (stp s 0 y).1))) = some (.fr (.lst (natsD m ++ natsD (m.map fun y => (stp s 0 y).1)))) := by
        rw [bn_lst, if_pos (by rw [natsD_len, natsD_len, List.length_map, sizeLine_eq]; omega)]
      have b2 : binD .Add (.lst (natsD m ++ natsD (m.map fun y => (stp s 0 y).1))) (.lst (natsD (m.map fun y => (stp s 1 y).1))) = some (.fr (.lst ((natsD m ++ natsD (m.map fun y => (stp s 0 y).1)) ++ natsD (m.map fun y => (stp s 1 y).1)))) := by
        rw [bn_lst, if_pos (by rw [List.length_append, natsD_len, natsD_len, natsD_len, List.length_map, List.length_map, sizeLine_eq]; omega)]
      have : evB tb (callF tb k) lb_law_reached_3 [.v (syD s), .v (.int (x : Nat)), .ow false (.lst (natsD m)), .v (rwD p), .un] = some (.nx [.v (syD s), .v (.int (x : Nat)), .ow false (.lst (natsD m')), .un, .un]) := by
        generalize syD s = SD at *
        generalize rwD p = PD at *
        generalize natsD m = A at *
        generalize natsD (m.map fun y => (stp s 0 y).1) = A0 at *
        generalize natsD (m.map fun y => (stp s 1 y).1) = A1 at *
        generalize natsD m' = A2 at *
        unfold lb_law_reached_3
        ((first | refine isRt_seq (e := ?_) ?_ ?_ | refine eqB_seq (e := ?_) ?_ ?_ | refine isDr_seq (e := ?_) ?_ ?_ | refine isEx_seq (e := ?_) ?_ ?_ | refine outRt_seq (e := ?_) ?_ ?_); rotate_left; focus (simp [l1, l2, b1, b2, a3, -bn_lst, -List.append_assoc] <;> exact rfl))
        (first | refine isRt_frz rfl ?_ | refine eqB_frz rfl ?_ | refine isDr_frz rfl ?_ | refine isEx_frz rfl ?_ | refine outRt_frz rfl ?_ | refine isRt_clr rfl ?_ | refine eqB_clr rfl ?_ | refine isDr_clr rfl ?_)
        rfl
      rw [this]
    · rw [a2, List.mem_append, List.mem_append, List.mem_map, List.mem_map, List.length_append]
      show _ ↔ RcN s x (pre.length + 1) y
      constructor
      · rintro ((h | ⟨z, hz, rfl⟩) | ⟨z, hz, rfl⟩)
        · obtain ⟨w, h1, h2, h3⟩ := (hm y).mp h
          exact ⟨w, h1, h2, by omega⟩
        · exact ((hm z).mp hz).step (by omega)
        · exact ((hm z).mp hz).step (by omega)
      · intro h
        rcases h.inv with h | ⟨z, h, hh, hz, rfl⟩
        · exact .inl (.inl ((hm y).mpr h))
        · rcases Nat.le_one_iff_eq_zero_or_eq_one.mp hh with rfl | rfl
          · exact .inl (.inr ⟨z, (hm z).mpr hz, rfl⟩)
          · exact .inr ⟨z, (hm z).mpr hz, rfl⟩
  refine ⟨m, nd, fun y => ?_, run_law_reached (r := .fr _) ?_⟩
  · rw [hm]
    constructor
    · rintro ⟨w, h1, h2, _⟩; exact ⟨w, h1, h2⟩
    · intro r
      obtain ⟨w, h1, h2, h3⟩ := r.short ok hx
      exact ⟨w, h1, h2, by omega⟩
  · have lp : evS tb (callF tb k) lp_law_reached_4 [.v (syD s), .v (.int (x : Nat)), .ow false (.lst [.int (x : Nat)]), .un, .un] = some (.nx [.v (syD s), .v (.int (x : Nat)), .ow false (.lst (natsD m)), .un, .un]) := by
      unfold lp_law_reached_4
      rw [loop_u (ds := s.map rwD) (e1 := [.v (syD s), .v (.int (x : Nat)), .ow false (.lst [.int (x : Nat)]), .un, .un]) (by simp)]
      exact lp
    generalize syD s = SD at *
    generalize natsD m = A at *
    unfold b_law_reached
    ((first | refine isRt_seq (e := ?_) ?_ ?_ | refine eqB_seq (e := ?_) ?_ ?_ | refine isDr_seq (e := ?_) ?_ ?_ | refine isEx_seq (e := ?_) ?_ ?_ | refine outRt_seq (e := ?_) ?_ ?_); rotate_left; focus (simp [] <;> exact rfl))
    ((first | refine isRt_seq (e := ?_) ?_ ?_ | refine eqB_seq (e := ?_) ?_ ?_ | refine isDr_seq (e := ?_) ?_ ?_ | refine isEx_seq (e := ?_) ?_ ?_ | refine outRt_seq (e := ?_) ?_ ?_); rotate_left; focus (simp [lp] <;> exact rfl))
    simp

end Ev.k71

set_option Elab.async false
set_option linter.all false
set_option maxRecDepth 100000
set_option maxHeartbeats 4000000
namespace Ev.k71
open PySem Ev
/-! the rounds, as the program finds them -/
def zD (z : RZ) : D := .tup [.int (z.1 : Nat), .tup (natsD z.2.1), .tup (natsD z.2.2)]
def pD (st : Nat) (w : List Nat) : D := nwD (st, w)
theorem pD_u (st : Nat) (w : List Nat) : pD st w = .tup [.int (st : Nat), .tup (natsD w)] := rfl
theorem mmD_ext (l m : List D) : mmD .extend (.lst l) [.lst m] = if l.length + m.length ≤ sizeLine then some (.v .non, .lst (l ++ m)) else none := rfl
theorem snocD {w : List Nat} (x : Nat) (h : w.length ≤ 1000) : binD .Add (.tup (natsD w)) (.tup [.int (x : Nat)]) = some (.v (.tup (natsD (w ++ [x])))) := by
  rw [bn_tup, if_pos (by rw [natsD_len, sizeLine_eq]; show w.length + 1 ≤ _; omega), natsD_app]
  rfl
abbrev rfE (s : Sy) (st : Nat) (F : List (List Nat)) (LS : Sl) (lg : List RZ) (r : List Sl) : Env := .v (syD s) :: .v (.int (st : Nat)) :: .ow false (.lst (F.map (pD st))) :: LS :: .ow false (.lst (lg.map zD)) :: r
theorem rf_hand {cf : CF} {s : Sy} (ok : SyOk s) {st d : Nat} {z : RZ} (o : ZOk s d z) {F : List (List Nat)} {lg : List RZ} {LS : Sl} {h : Nat} (hh : h ≤ 1) (hF : F.length ≤ 100000) (hL : lg.length ≤ 100000) :
    turnF (fun d => asgT (.nm 8) (.v d)) (evB tb cf lb_rounds_from_1) (.int (h : Nat)) (rfE s st F LS lg [.v (.int (z.1 : Nat)), .v (.tup (natsD z.2.1)), .v (.tup (natsD z.2.2)), .un, .un]) = some (.nx (rfE s st (F ++ fnH s st z h) LS (lg ++ nxH s st z h) [.v (.int (z.1 : Nat)), .v (.tup (natsD z.2.1)), .v (.tup (natsD z.2.2)), .un, .un])) := by
  have tf : turnF (fun d => asgT (.nm 8) (.v d)) (evB tb cf lb_rounds_from_1) (.int (h : Nat)) (rfE s st F LS lg [.v (.int (z.1 : Nat)), .v (.tup (natsD z.2.1)), .v (.tup (natsD z.2.2)), .un, .un]) = (match evB tb cf lb_rounds_from_1 (rfE s st F LS lg [.v (.int (z.1 : Nat)), .v (.tup (natsD z.2.1)), .v (.tup (natsD z.2.2)), .v (.int (h : Nat)), .un]) with
    | some (.ct e) => some (.nx e)
    | r => r) := rfl
  rw [tf]
  obtain ⟨r, r1, r2⟩ := stp_at o.lt hh
  have e3 : ixD (stD (stp s h z.1)) (.int 0) = some (.int ((stp s h z.1).1 : Nat)) := rfl
  have h6 := ok.most
  have hd := o.d
  have hw := snocD h (w := z.2.1) (by rw [o.wl]; omega)
  have hm := snocD (stp s h z.1).1 (w := z.2.2) (by rw [o.ml]; omega)
  have hin := in_natsT (stp s h z.1).1 z.2.2
  have lF : (F.map (pD st)).length < 16777216 := by rw [List.length_map]; omega
  have lL : (lg.map zD).length < 16777216 := by rw [List.length_map]; omega
  have key : evB tb cf lb_rounds_from_1 (rfE s st F LS lg [.v (.int (z.1 : Nat)), .v (.tup (natsD z.2.1)), .v (.tup (natsD z.2.2)), .v (.int (h : Nat)), .un]) = some (.nx (rfE s st (F ++ fnH s st z h) LS (lg ++ nxH s st z h) [.v (.int (z.1 : Nat)), .v (.tup (natsD z.2.1)), .v (.tup (natsD z.2.2)), .un, .un])) := by
    unfold fnH nxH okT
    simp only [rfE]
    generalize syD s = SD at *
    generalize stD (stp s h z.1) = ST at *
    generalize (stp s h z.1).1 = to at *
    by_cases q : to = st
    · subst q
      simp only [if_true, List.append_nil, List.map_append, List.map_cons, List.map_nil, pD_u]
      generalize F.map (pD to) = FD at *
      generalize lg.map zD = GD at *
      generalize natsD z.2.2 = MD at *
      generalize natsD (z.2.1 ++ [h]) = W2 at *
      generalize natsD z.2.1 = WD at *
      unfold lb_rounds_from_1
      ((first | refine isRt_seq (e := ?_) ?_ ?_ | refine eqB_seq (e := ?_) ?_ ?_ | refine isDr_seq (e := ?_) ?_ ?_ | refine isEx_seq (e := ?_) ?_ ?_ | refine outRt_seq (e := ?_) ?_ ?_); rotate_left; focus (simp [r1, r2, e3] <;> exact rfl))
      ((first | refine isRt_seq (e := ?_) ?_ ?_ | refine eqB_seq (e := ?_) ?_ ?_ | refine isDr_seq (e := ?_) ?_ ?_ | refine isEx_seq (e := ?_) ?_ ?_ | refine outRt_seq (e := ?_) ?_ ?_); rotate_left; focus (simp [hw, lF, -bn_tup] <;> exact rfl))
      (first | refine isRt_frz rfl ?_ | refine eqB_frz rfl ?_ | refine isDr_frz rfl ?_ | refine isEx_frz rfl ?_ | refine outRt_frz rfl ?_ | refine isRt_clr rfl ?_ | refine eqB_clr rfl ?_ | refine isDr_clr rfl ?_)
      rfl
    · have q' : ¬ (to : Int) = st := by omega
      by_cases q1 : st < to
      · have q1' : (st : Int) < to := by omega
        by_cases q2 : to ∈ z.2.2
        · rw [decide_eq_true q2] at hin
          simp only [if_neg q, q2, not_true_eq_false, decide_false, Bool.and_false, Bool.false_eq_true, if_false, List.append_nil]
          generalize F.map (pD st) = FD at *
          generalize lg.map zD = GD at *
          generalize natsD z.2.2 = MD at *
          generalize natsD z.2.1 = WD at *
          unfold lb_rounds_from_1
          ((first | refine isRt_seq (e := ?_) ?_ ?_ | refine eqB_seq (e := ?_) ?_ ?_ | refine isDr_seq (e := ?_) ?_ ?_ | refine isEx_seq (e := ?_) ?_ ?_ | refine outRt_seq (e := ?_) ?_ ?_); rotate_left; focus (simp [r1, r2, e3] <;> exact rfl))
          ((first | refine isRt_seq (e := ?_) ?_ ?_ | refine eqB_seq (e := ?_) ?_ ?_ | refine isDr_seq (e := ?_) ?_ ?_ | refine isEx_seq (e := ?_) ?_ ?_ | refine outRt_seq (e := ?_) ?_ ?_); rotate_left; focus (simp [q, q', q1, q1', hin] <;> exact rfl))
          (first | refine isRt_frz rfl ?_ | refine eqB_frz rfl ?_ | refine isDr_frz rfl ?_ | refine isEx_frz rfl ?_ | refine outRt_frz rfl ?_ | refine isRt_clr rfl ?_ | refine eqB_clr rfl ?_ | refine isDr_clr rfl ?_)
          rfl
        · rw [decide_eq_false q2] at hin
          simp only [if_neg q, q1, q2, not_false_eq_true, decide_true, Bool.and_true, if_true, List.append_nil, List.map_append, List.map_cons, List.map_nil, zD]
          generalize F.map (pD st) = FD at *
          generalize lg.map zD = GD at *
          generalize natsD (z.2.2 ++ [to]) = M2 at *
          generalize natsD z.2.2 = MD at *
          generalize natsD (z.2.1 ++ [h]) = W2 at *
          generalize natsD z.2.1 = WD at *
          unfold lb_rounds_from_1
          ((first | refine isRt_seq (e := ?_) ?_ ?_ | refine eqB_seq (e := ?_) ?_ ?_ | refine isDr_seq (e := ?_) ?_ ?_ | refine isEx_seq (e := ?_) ?_ ?_ | refine outRt_seq (e := ?_) ?_ ?_); rotate_left; focus (simp [r1, r2, e3] <;> exact rfl))
          ((first | refine isRt_seq (e := ?_) ?_ ?_ | refine eqB_seq (e := ?_) ?_ ?_ | refine isDr_seq (e := ?_) ?_ ?_ | refine isEx_seq (e := ?_) ?_ ?_ | refine outRt_seq (e := ?_) ?_ ?_); rotate_left; focus (simp [q, q', q1, q1', hin, hw, hm, lL, -bn_tup] <;> exact rfl))
          (first | refine isRt_frz rfl ?_ | refine eqB_frz rfl ?_ | refine isDr_frz rfl ?_ | refine isEx_frz rfl ?_ | refine outRt_frz rfl ?_ | refine isRt_clr rfl ?_ | refine eqB_clr rfl ?_ | refine isDr_clr rfl ?_)
          rfl
      · have q1' : ¬ (st : Int) < to := by omega
        simp only [if_neg q, q1, decide_false, Bool.false_and, Bool.false_eq_true, if_false, List.append_nil]
        generalize F.map (pD st) = FD at *
        generalize lg.map zD = GD at *
        generalize natsD z.2.2 = MD at *
        generalize natsD z.2.1 = WD at *
        unfold lb_rounds_from_1
        ((first | refine isRt_seq (e := ?_) ?_ ?_ | refine eqB_seq (e := ?_) ?_ ?_ | refine isDr_seq (e := ?_) ?_ ?_ | refine isEx_seq (e := ?_) ?_ ?_ | refine outRt_seq (e := ?_) ?_ ?_); rotate_left; focus (simp [r1, r2, e3] <;> exact rfl))
        ((first | refine isRt_seq (e := ?_) ?_ ?_ | refine eqB_seq (e := ?_) ?_ ?_ | refine isDr_seq (e := ?_) ?_ ?_ | refine isEx_seq (e := ?_) ?_ ?_ | refine outRt_seq (e := ?_) ?_ ?_); rotate_left; focus (simp [q, q', q1, q1'] <;> exact rfl))
        (first | refine isRt_frz rfl ?_ | refine eqB_frz rfl ?_ | refine isDr_frz rfl ?_ | refine isEx_frz rfl ?_ | refine outRt_frz rfl ?_ | refine isRt_clr rfl ?_ | refine eqB_clr rfl ?_ | refine isDr_clr rfl ?_)
        rfl
  rw [key]
theorem rf_z {cf : CF} {s : Sy} (ok : SyOk s) {st d : Nat} {z : RZ} (o : ZOk s d z) {F : List (List Nat)} {lg : List RZ} {LS : Sl} (hF : F.length ≤ 90000) (hL : lg.length ≤ 90000) :
    turnF (fun d => asgT (.tp (.cons (.nm 5) (.cons (.nm 6) (.cons (.nm 7) .nil)))) (.v d)) (evB tb cf lb_rounds_from_3) (zD z) (rfE s st F LS lg [.un, .un, .un, .un, .un]) = some (.nx (rfE s st (F ++ fnd s st z) LS (lg ++ nxt s st z) [.un, .un, .un, .un, .un])) := by
  have tf : turnF (fun d => asgT (.tp (.cons (.nm 5) (.cons (.nm 6) (.cons (.nm 7) .nil)))) (.v d)) (evB tb cf lb_rounds_from_3) (zD z) (rfE s st F LS lg [.un, .un, .un, .un, .un]) = (match evB tb cf lb_rounds_from_3 (rfE s st F LS lg [.v (.int (z.1 : Nat)), .v (.tup (natsD z.2.1)), .v (.tup (natsD z.2.2)), .un, .un]) with
    | some (.ct e) => some (.nx e)
    | r => r) := by
    generalize evB tb cf lb_rounds_from_3 = BB
    simp only [rfE, zD]
    generalize natsD z.2.2 = MD at *
    generalize natsD z.2.1 = WD at *
    simp <;> rfl
  rw [tf]
  have t1 := rf_hand (cf := cf) ok o (st := st) (F := F) (lg := lg) (LS := LS) (h := 0) (by omega) (by omega) (by omega)
  have l0 := fnH_len s st z 0
  have l1 := nxH_len s st z 0
  have t2 := rf_hand (cf := cf) ok o (st := st) (F := F ++ fnH s st z 0) (lg := lg ++ nxH s st z 0) (LS := LS) (h := 1) (by omega) (by rw [List.length_append]; omega) (by rw [List.length_append]; omega)
  have lp : evS tb cf lp_rounds_from_2 (rfE s st F LS lg [.v (.int (z.1 : Nat)), .v (.tup (natsD z.2.1)), .v (.tup (natsD z.2.2)), .un, .un]) = some (.nx (rfE s st (F ++ fnd s st z) LS (lg ++ nxt s st z) [.v (.int (z.1 : Nat)), .v (.tup (natsD z.2.1)), .v (.tup (natsD z.2.2)), .un, .un])) := by
    unfold lp_rounds_from_2
    rw [loop_u (ds := [.int 0, .int 1]) (e1 := rfE s st F LS lg [.v (.int (z.1 : Nat)), .v (.tup (natsD z.2.1)), .v (.tup (natsD z.2.2)), .un, .un]) (by simp), forL_c]
    have t1 : turnF (fun d => asgT (.nm 8) (.v d)) (evB tb cf lb_rounds_from_1) (.int 0) _ = _ := t1
    rw [t1]
    show forL _ _ [.int 1] _ = _
    rw [forL_c]
    have t2 : turnF (fun d => asgT (.nm 8) (.v d)) (evB tb cf lb_rounds_from_1) (.int 1) _ = _ := t2
    rw [t2]
    unfold fnd nxt
    rw [← List.append_assoc, ← List.append_assoc]
    rfl
  have : evB tb cf lb_rounds_from_3 (rfE s st F LS lg [.v (.int (z.1 : Nat)), .v (.tup (natsD z.2.1)), .v (.tup (natsD z.2.2)), .un, .un]) = some (.nx (rfE s st (F ++ fnd s st z) LS (lg ++ nxt s st z) [.un, .un, .un, .un, .un])) := by
    unfold lb_rounds_from_3
    refine eqB_seq lp ?_
    simp only [rfE]
    generalize (lg ++ nxt s st z).map zD = GD
    generalize (F ++ fnd s st z).map (pD st) = FD
    (first | refine isRt_frz rfl ?_ | refine eqB_frz rfl ?_ | refine isDr_frz rfl ?_ | refine isEx_frz rfl ?_ | refine outRt_frz rfl ?_ | refine isRt_clr rfl ?_ | refine eqB_clr rfl ?_ | refine isDr_clr rfl ?_)
    rfl
  rw [this]
theorem fnd_len (s : Sy) (st : Nat) (z : RZ) : (fnd s st z).length ≤ 2 := by
  have a := fnH_len s st z 0
  have b := fnH_len s st z 1
  unfold fnd
  rw [List.length_append]; omega
theorem nxt_len (s : Sy) (st : Nat) (z : RZ) : (nxt s st z).length ≤ 2 := by
  have a := nxH_len s st z 0
  have b := nxH_len s st z 1
  unfold nxt
  rw [List.length_append]; omega
theorem foldl_fm {α β γ : Type} (f : α → List β) (g : α → List γ) : ∀ (l : List α) (a : List β) (b : List γ), l.foldl (fun (p : List β × List γ) x => (p.1 ++ f x, p.2 ++ g x)) (a, b) = (a ++ l.flatMap f, b ++ l.flatMap g)
  | [], a, b => by simp
  | x :: l, a, b => by
    rw [List.foldl_cons, foldl_fm f g l]
    simp
theorem rf_layer {cf : CF} {s : Sy} (ok : SyOk s) {st d : Nat} {L : List RZ} (oL : ∀ z ∈ L, ZOk s d z) {F : List (List Nat)} (hF : F.length ≤ 40000) (hL : L.length ≤ 10000) :
    evS tb cf lp_rounds_from_4 (rfE s st F (.v (.lst (L.map zD))) [] [.un, .un, .un, .un, .un]) = some (.nx (rfE s st (F ++ L.flatMap (fnd s st)) (.v (.lst (L.map zD))) (L.flatMap (nxt s st)) [.un, .un, .un, .un, .un])) := by
  unfold lp_rounds_from_4
  have := loop_fold (tb := tb) (cf := cf) (t := .tp (.cons (.nm 5) (.cons (.nm 6) (.cons (.nm 7) .nil)))) (it := .sq (.var 3)) (b := lb_rounds_from_3) (env := rfE s st F (.v (.lst (L.map zD))) [] [.un, .un, .un, .un, .un]) L zD (fun p : List (List Nat) × List RZ => rfE s st p.1 (.v (.lst (L.map zD))) p.2 [.un, .un, .un, .un, .un]) (fun p z => (p.1 ++ fnd s st z, p.2 ++ nxt s st z)) (fun i p => p.1.length ≤ F.length + 2 * i ∧ p.2.length ≤ 2 * i) (F, []) (by simp) ⟨by simp, by simp⟩ fun i p z hz hi ⟨h1, h2⟩ => by
    have a := fnd_len s st z
    have b := nxt_len s st z
    refine ⟨⟨?_, ?_⟩, rf_z ok (oL z hz) (by omega) (by omega)⟩
    · show (p.1 ++ fnd s st z).length ≤ _
      rw [List.length_append]; omega
    · show (p.2 ++ nxt s st z).length ≤ _
      rw [List.length_append]; omega
  rw [this, foldl_fm]
  rfl
structure RfI (s : Sy) (st : Nat) (d : Nat) (F : List (List Nat)) (L : List RZ) : Prop where
  ok : ∀ z ∈ L, ZOk s d z
  pm : (F ++ L.flatMap (lr s st (s.length - d))).Perm (lr s st s.length (st, [], [st]))
  le : L.length ≤ 2 ^ d
abbrev rfW (s : Sy) (st : Nat) (F : List (List Nat)) (L : List RZ) : Env := [.v (syD s), .v (.int (st : Nat)), .ow false (.lst (F.map (pD st))), .v (.lst (L.map zD)), .un, .un, .un, .un, .un, .un]
theorem rf_lp {cf : CF} {s : Sy} (ok : SyOk s) {st : Nat} (hst : st < s.length) : ∃ F : List (List Nat), F.Perm (lr s st s.length (st, [], [st])) ∧ evS tb cf lp_rounds_from_6 (rfW s st [] [(st, [], [st])]) = some (.nx (rfW s st F [])) := by
  have h6 := ok.most
  refine whl_by (fun z : Nat × List (List Nat) × List RZ => rfW s st z.2.1 z.2.2) (fun z => RfI s st z.1 z.2.1 z.2.2) (fun z => 8 - z.1) (fun o => ∃ F : List (List Nat), F.Perm (lr s st s.length (st, [], [st])) ∧ o = some (.nx (rfW s st F []))) (0, [], [(st, [], [st])]) ⟨fun z hz => by rw [List.mem_singleton.mp hz]; exact z0_ok hst, by simp, by simp⟩ (by omega) ?_
  rintro ⟨d, F, L⟩ r
  have e1 := r.ok
  have e2 := r.pm
  have e3 := r.le
  simp only at e1 e2 e3
  cases hL : L with
  | nil =>
    subst hL
    left
    refine ⟨rfW s st F [], ?_, F, by simpa using e2, rfl⟩
    simp only [rfW, List.map_nil]
    generalize F.map (pD st) = FD
    generalize syD s = SD
    simp
  | cons z0 L0 =>
    rw [← hL]
    have hne : 0 < L.length := by rw [hL]; simp
    have hd := (e1 z0 (by rw [hL]; simp)).d
    right
    have tl : (L.map zD).length = L.length := List.length_map _
    refine ⟨rfW s st F L, ?_, .inl ⟨(d + 1, F ++ L.flatMap (fnd s st), L.flatMap (nxt s st)), .inl ?_, ⟨nxt_ok ok e1, ?_, ?_⟩, ?_⟩⟩
    · simp only [rfW]
      generalize F.map (pD st) = FD
      generalize L.map zD = LD at *
      generalize syD s = SD
      simp [tl, hne]
    · have lF : F.length ≤ 128 := by
        have := e2.length_eq
        rw [List.length_append] at this
        have h2 := lr_len s st s.length (st, [], [st])
        have h3 : 2 ^ (s.length + 1) ≤ 2 ^ 7 := Nat.pow_le_pow_right (by omega) (by omega)
        omega
      have lL : L.length ≤ 64 := by
        have h3 : 2 ^ d ≤ 2 ^ 6 := Nat.pow_le_pow_right (by omega) (by omega)
        omega
      have ly := rf_layer (cf := cf) ok (st := st) e1 (F := F) (by omega) (by omega)
      unfold lb_rounds_from_5
      refine eqB_seq (e := rfE s st F (.v (.lst (L.map zD))) [] [.un, .un, .un, .un, .un]) ?_ ?_
      · simp only [rfW, rfE, List.map_nil]
        generalize F.map (pD st) = FD
        generalize L.map zD = LD at *
        generalize syD s = SD
        simp
      · refine eqB_seq ly ?_
        simp only [rfW, rfE]
        generalize (F ++ L.flatMap (fnd s st)).map (pD st) = FD
        generalize (L.flatMap (nxt s st)).map zD = ND
        generalize L.map zD = LD at *
        generalize syD s = SD
        ((first | refine isRt_seq (e := ?_) ?_ ?_ | refine eqB_seq (e := ?_) ?_ ?_ | refine isDr_seq (e := ?_) ?_ ?_ | refine isEx_seq (e := ?_) ?_ ?_ | refine outRt_seq (e := ?_) ?_ ?_); rotate_left; focus (simp [] <;> exact rfl))
        (first | refine isRt_frz rfl ?_ | refine eqB_frz rfl ?_ | refine isDr_frz rfl ?_ | refine isEx_frz rfl ?_ | refine outRt_frz rfl ?_ | refine isRt_clr rfl ?_ | refine eqB_clr rfl ?_ | refine isDr_clr rfl ?_)
        (first | refine isRt_frz rfl ?_ | refine eqB_frz rfl ?_ | refine isDr_frz rfl ?_ | refine isEx_frz rfl ?_ | refine outRt_frz rfl ?_ | refine isRt_clr rfl ?_ | refine eqB_clr rfl ?_ | refine isDr_clr rfl ?_)
        rfl
    · have p := lr_perms s st (s.length - (d + 1)) L
      have e : s.length - (d + 1) + 1 = s.length - d := by omega
      rw [e] at p
      refine List.Perm.trans ?_ e2
      rw [List.append_assoc]
      exact p.symm.append_left F
    · have := fl_len (nxt s st) 2 L fun z _ => nxt_len s st z
      show (L.flatMap (nxt s st)).length ≤ 2 ^ (d + 1)
      rw [Nat.pow_succ]; omega
    · show 8 - (d + 1) < 8 - d
      omega
theorem rounds_from_ok {k : Nat} {s : Sy} (ok : SyOk s) {st : Nat} (hst : st < s.length) : ∃ F : List (List Nat), F.Perm (lr s st s.length (st, [], [st])) ∧ callV (callF tb (k+1)) f_rounds_from [syD s, .int (st : Nat)] = ret (.fr (.lst (F.map (pD st)))) := by
  obtain ⟨F, h1, lp⟩ := rf_lp (cf := callF tb k) ok hst
  refine ⟨F, h1, run_rounds_from (r := .fr _) ?_⟩
  have e0 : rfW s st [] [(st, [], [st])] = [.v (syD s), .v (.int (st : Nat)), .ow false (.lst []), .v (.lst [.tup [.int (st : Nat), .tup [], .tup [.int (st : Nat)]]]), .un, .un, .un, .un, .un, .un] := rfl
  rw [e0] at lp
  simp only [rfW, List.map_nil] at lp
  generalize F.map (pD st) = FD at *
  generalize syD s = SD at *
  unfold b_rounds_from
  ((first | refine isRt_seq (e := ?_) ?_ ?_ | refine eqB_seq (e := ?_) ?_ ?_ | refine isDr_seq (e := ?_) ?_ ?_ | refine isEx_seq (e := ?_) ?_ ?_ | refine outRt_seq (e := ?_) ?_ ?_); rotate_left; focus (simp [] <;> exact rfl))
  (first | refine isRt_frz rfl ?_ | refine eqB_frz rfl ?_ | refine isDr_frz rfl ?_ | refine isEx_frz rfl ?_ | refine outRt_frz rfl ?_ | refine isRt_clr rfl ?_ | refine eqB_clr rfl ?_ | refine isDr_clr rfl ?_)
  ((first | refine isRt_seq (e := ?_) ?_ ?_ | refine eqB_seq (e := ?_) ?_ ?_ | refine isDr_seq (e := ?_) ?_ ?_ | refine isEx_seq (e := ?_) ?_ ?_ | refine outRt_seq (e := ?_) ?_ ?_); rotate_left; focus (simp [lp] <;> exact rfl))
  simp
theorem found_rounds_ok {k : Nat} {s : Sy} (ok : SyOk s) : callV (callF tb (k+2)) f_found_rounds [syD s] = ret (.fr (.lst ((srtP (rdsL s)).map nwD))) := by
  have r := rng1M_n (n := s.length) (by have := ok.most; omega)
  have h6 := ok.most
  obtain ⟨G, lp, pm⟩ := for_pre (as := fun d => asgT (.nm 2) (.v d)) (body := evB tb (callF tb (k+1)) lb_found_rounds_1) (fun (i : Nat) => D.int i) (fun G : List NW => [.v (syD s), .ow false (.lst (G.map nwD)), .un]) (fun pre G => G.Perm (pre.flatMap fun st => (lr s st s.length (st, [], [st])).map fun w => (st, w))) (List.range s.length) [] (by simp) fun pre st post G e pm => by
    have hst : st < s.length := by
      have : st ∈ List.range s.length := by rw [e]; simp
      exact List.mem_range.mp this
    have hpl : pre.length ≤ 6 := by
      have := congrArg List.length e
      simp at this
      omega
    obtain ⟨F, h1, h2⟩ := rounds_from_ok (k := k) ok hst
    have lF : F.length ≤ 128 := by
      rw [h1.length_eq]
      have h2 := lr_len s st s.length (st, [], [st])
      have h3 : 2 ^ (s.length + 1) ≤ 2 ^ 7 := Nat.pow_le_pow_right (by omega) (by omega)
      omega
    have lG : G.length ≤ 6 * 128 := by
      rw [pm.length_eq]
      have := fl_len (fun st => (lr s st s.length (st, [], [st])).map fun w => (st, w)) 128 pre fun st _ => by
        rw [List.length_map]
        have := lr_len s st s.length (st, [], [st])
        have h2 : 2 ^ (s.length + 1) ≤ 2 ^ 7 := Nat.pow_le_pow_right (by omega) (by omega)
        omega
      have := Nat.mul_le_mul_right 128 hpl
      omega
    refine ⟨G ++ F.map fun w => (st, w), ?_, ?_⟩
    · have tf : turnF (fun d => asgT (.nm 2) (.v d)) (evB tb (callF tb (k+1)) lb_found_rounds_1) (.int (st : Nat)) [.v (syD s), .ow false (.lst (G.map nwD)), .un] = (match evB tb (callF tb (k+1)) lb_found_rounds_1 [.v (syD s), .ow false (.lst (G.map nwD)), .v (.int (st : Nat))] with
        | some (.ct e) => some (.nx e)
        | r => r) := rfl
      rw [tf]
      have em : (G ++ F.map fun w => (st, w)).map nwD = G.map nwD ++ F.map (pD st) := by rw [List.map_append, List.map_map]; rfl
      have me := mmD_ext (G.map nwD) (F.map (pD st))
      rw [if_pos (by rw [List.length_map, List.length_map, sizeLine_eq]; omega)] at me
      rw [em]
      generalize G.map nwD = GD at *
      generalize F.map (pD st) = FD at *
      generalize syD s = SD at *
      have : evB tb (callF tb (k+1)) lb_found_rounds_1 [.v SD, .ow false (.lst GD), .v (.int (st : Nat))] = some (.nx [.v SD, .ow false (.lst (GD ++ FD)), .un]) := by
        unfold lb_found_rounds_1
        ((first | refine isRt_seq (e := ?_) ?_ ?_ | refine eqB_seq (e := ?_) ?_ ?_ | refine isDr_seq (e := ?_) ?_ ?_ | refine isEx_seq (e := ?_) ?_ ?_ | refine outRt_seq (e := ?_) ?_ ?_); rotate_left; focus (simp [h2, me] <;> exact rfl))
        (first | refine isRt_frz rfl ?_ | refine eqB_frz rfl ?_ | refine isDr_frz rfl ?_ | refine isEx_frz rfl ?_ | refine outRt_frz rfl ?_ | refine isRt_clr rfl ?_ | refine eqB_clr rfl ?_ | refine isDr_clr rfl ?_)
        rfl
      rw [this]
    · rw [List.flatMap_append, List.flatMap_singleton]
      exact pm.append (h1.map _)
  refine run_found_rounds (r := .fr _) ?_
  have lG := rdsL_len ok
  have pm : G.Perm (rdsL s) := pm
  have so := sort_nw G (by rw [pm.length_eq]; omega)
  rw [srtP_eq pm] at so
  have lp : evS tb (callF tb (k+1)) lp_found_rounds_2 [.v (syD s), .ow false (.lst []), .un] = some (.nx [.v (syD s), .ow false (.lst (G.map nwD)), .un]) := by
    unfold lp_found_rounds_2
    rw [loop_u (ds := (List.range s.length).map fun (i : Nat) => D.int i) (e1 := [.v (syD s), .ow false (.lst []), .un]) (by simp [r])]
    exact lp
  generalize G.map nwD = GD at *
  generalize (srtP (rdsL s)).map nwD = RD at *
  generalize syD s = SD at *
  unfold b_found_rounds
  ((first | refine isRt_seq (e := ?_) ?_ ?_ | refine eqB_seq (e := ?_) ?_ ?_ | refine isDr_seq (e := ?_) ?_ ?_ | refine isEx_seq (e := ?_) ?_ ?_ | refine outRt_seq (e := ?_) ?_ ?_); rotate_left; focus (simp [] <;> exact rfl))
  ((first | refine isRt_seq (e := ?_) ?_ ?_ | refine eqB_seq (e := ?_) ?_ ?_ | refine isDr_seq (e := ?_) ?_ ?_ | refine isEx_seq (e := ?_) ?_ ?_ | refine outRt_seq (e := ?_) ?_ ?_); rotate_left; focus (simp [lp] <;> exact rfl))
  simp [so, -bi_sorted]
theorem simple_rounds_ok {k : Nat} {s : Sy} (ok : SyOk s) : callV (callF tb (k+6)) f_simple_rounds [syD s] = ret (.v (.tup ((srtP (rdsL s)).map nwD))) := by
  refine run_simple_rounds (r := .v _) ?_
  have c1 : callV (callF tb (k+5)) f_check_system [syD s] = _ := check_system_ok (k := k+1) ok
  have c2 : callV (callF tb (k+5)) f_found_rounds [syD s] = _ := found_rounds_ok (k := k+3) ok
  generalize (srtP (rdsL s)).map nwD = RD at *
  generalize syD s = SD at *
  simp [b_simple_rounds, c1, c2]

end Ev.k71

set_option Elab.async false
set_option linter.all false
set_option maxRecDepth 100000
set_option maxHeartbeats 4000000
namespace Ev.k71
open PySem Ev
/-! the rounds, as the law finds them -/
abbrev lrE (s : Sy) (st : Nat) (z : RZ) (F : List (List Nat)) (a b : Sl) : Env := [.v (syD s), .v (.int (st : Nat)), .v (.int (z.1 : Nat)), .v (.tup (natsD z.2.1)), .v (.lst (natsD z.2.2)), .ow false (.lst (F.map (pD st))), a, b]
theorem lrn_turn {m f : Nat} {s : Sy} (ok : SyOk s) {st d : Nat} {z : RZ} (o : ZOk s d z) {F : List (List Nat)} {h : Nat} (hh : h ≤ 1) (hF : F.length ≤ 100000) (hf : f ≤ 10)
    (rec : ∀ y ∈ nxH s st z h, callV (callF tb m) f_law_rounds [syD s, .int (st : Nat), .int (y.1 : Nat), .tup (natsD y.2.1), .lst (natsD y.2.2)] = ret (.fr (.lst ((lr s st f y).map (pD st))))) :
    turnF (fun d => asgT (.nm 6) (.v d)) (evB tb (callF tb m) lb_law_rounds_1) (.int (h : Nat)) (lrE s st z F .un .un) = some (.nx (lrE s st z (F ++ (fnH s st z h ++ (nxH s st z h).flatMap (lr s st f))) .un .un)) := by
  have tf : turnF (fun d => asgT (.nm 6) (.v d)) (evB tb (callF tb m) lb_law_rounds_1) (.int (h : Nat)) (lrE s st z F .un .un) = (match evB tb (callF tb m) lb_law_rounds_1 (lrE s st z F (.v (.int (h : Nat))) .un) with
    | some (.ct e) => some (.nx e)
    | r => r) := rfl
  rw [tf]
  obtain ⟨r, r1, r2⟩ := stp_at o.lt hh
  have e3 : ixD (stD (stp s h z.1)) (.int 0) = some (.int ((stp s h z.1).1 : Nat)) := rfl
  have h6 := ok.most
  have hd := o.d
  have hw := snocD h (w := z.2.1) (by rw [o.wl]; omega)
  have hm : binD .Add (.lst (natsD z.2.2)) (.lst [.int ((stp s h z.1).1 : Nat)]) = some (.fr (.lst (natsD (z.2.2 ++ [(stp s h z.1).1])))) := by
    rw [bn_lst, if_pos (by rw [natsD_len, o.ml, sizeLine_eq]; show d + 1 + 1 ≤ _; omega), natsD_app]
    rfl
  have hin := in_natsL (stp s h z.1).1 z.2.2
  have lF : (F.map (pD st)).length < 16777216 := by rw [List.length_map]; omega
  have key : evB tb (callF tb m) lb_law_rounds_1 (lrE s st z F (.v (.int (h : Nat))) .un) = some (.nx (lrE s st z (F ++ (fnH s st z h ++ (nxH s st z h).flatMap (lr s st f))) .un .un)) := by
    unfold fnH
    unfold nxH okT at rec ⊢
    simp only [lrE]
    generalize syD s = SD at *
    generalize stD (stp s h z.1) = ST at *
    generalize (stp s h z.1).1 = to at *
    by_cases q : to = st
    · subst q
      simp only [if_true, List.append_nil, List.flatMap_nil, List.map_append, List.map_cons, List.map_nil, pD_u]
      generalize F.map (pD to) = FD at *
      generalize natsD z.2.2 = MD at *
      generalize natsD (z.2.1 ++ [h]) = W2 at *
      generalize natsD z.2.1 = WD at *
      unfold lb_law_rounds_1
      ((first | refine isRt_seq (e := ?_) ?_ ?_ | refine eqB_seq (e := ?_) ?_ ?_ | refine isDr_seq (e := ?_) ?_ ?_ | refine isEx_seq (e := ?_) ?_ ?_ | refine outRt_seq (e := ?_) ?_ ?_); rotate_left; focus (simp [r1, r2, e3] <;> exact rfl))
      ((first | refine isRt_seq (e := ?_) ?_ ?_ | refine eqB_seq (e := ?_) ?_ ?_ | refine isDr_seq (e := ?_) ?_ ?_ | refine isEx_seq (e := ?_) ?_ ?_ | refine outRt_seq (e := ?_) ?_ ?_); rotate_left; focus (simp [hw, lF, -bn_tup] <;> exact rfl))
      (first | refine isRt_frz rfl ?_ | refine eqB_frz rfl ?_ | refine isDr_frz rfl ?_ | refine isEx_frz rfl ?_ | refine outRt_frz rfl ?_ | refine isRt_clr rfl ?_ | refine eqB_clr rfl ?_ | refine isDr_clr rfl ?_)
      rfl
    · have q' : ¬ (to : Int) = st := by omega
      by_cases q1 : st < to
      · have q1' : (st : Int) < to := by omega
        by_cases q2 : to ∈ z.2.2
        · rw [decide_eq_true q2] at hin
          simp only [if_neg q, q2, not_true_eq_false, decide_false, Bool.and_false, Bool.false_eq_true, if_false, List.append_nil, List.flatMap_nil]
          generalize F.map (pD st) = FD at *
          generalize natsD z.2.2 = MD at *
          generalize natsD z.2.1 = WD at *
          unfold lb_law_rounds_1
          ((first | refine isRt_seq (e := ?_) ?_ ?_ | refine eqB_seq (e := ?_) ?_ ?_ | refine isDr_seq (e := ?_) ?_ ?_ | refine isEx_seq (e := ?_) ?_ ?_ | refine outRt_seq (e := ?_) ?_ ?_); rotate_left; focus (simp [r1, r2, e3] <;> exact rfl))
          ((first | refine isRt_seq (e := ?_) ?_ ?_ | refine eqB_seq (e := ?_) ?_ ?_ | refine isDr_seq (e := ?_) ?_ ?_ | refine isEx_seq (e := ?_) ?_ ?_ | refine outRt_seq (e := ?_) ?_ ?_); rotate_left; focus (simp [q, q', q1, q1', hin] <;> exact rfl))
          (first | refine isRt_frz rfl ?_ | refine eqB_frz rfl ?_ | refine isDr_frz rfl ?_ | refine isEx_frz rfl ?_ | refine outRt_frz rfl ?_ | refine isRt_clr rfl ?_ | refine eqB_clr rfl ?_ | refine isDr_clr rfl ?_)
          rfl
        · rw [decide_eq_false q2] at hin
          simp only [if_neg q, q1, q2, not_false_eq_true, decide_true, Bool.and_true, if_true, List.mem_singleton, forall_eq] at rec
          simp only [if_neg q, q1, q2, not_false_eq_true, decide_true, Bool.and_true, if_true, List.nil_append, List.flatMap_singleton, List.map_append]
          have lR : ((lr s st f (to, z.2.1 ++ [h], z.2.2 ++ [to])).map (pD st)).length ≤ 2 ^ 11 := by
            rw [List.length_map]
            exact Nat.le_trans (lr_len s st f _) (Nat.pow_le_pow_right (by omega) (by omega))
          have l2 : (2 : Nat) ^ 11 = 2048 := by decide
          generalize (lr s st f (to, z.2.1 ++ [h], z.2.2 ++ [to])).map (pD st) = RD at *
          have lF2 : (F.map (pD st)).length ≤ 100000 := by rw [List.length_map]; omega
          generalize F.map (pD st) = FD at *
          have ad : binD .Add (.lst FD) (.lst RD) = some (.fr (.lst (FD ++ RD))) := by
            rw [bn_lst, if_pos (by rw [sizeLine_eq]; omega)]
          generalize natsD (z.2.2 ++ [to]) = M2 at *
          generalize natsD z.2.2 = MD at *
          generalize natsD (z.2.1 ++ [h]) = W2 at *
          generalize natsD z.2.1 = WD at *
          unfold lb_law_rounds_1
          ((first | refine isRt_seq (e := ?_) ?_ ?_ | refine eqB_seq (e := ?_) ?_ ?_ | refine isDr_seq (e := ?_) ?_ ?_ | refine isEx_seq (e := ?_) ?_ ?_ | refine outRt_seq (e := ?_) ?_ ?_); rotate_left; focus (simp [r1, r2, e3] <;> exact rfl))
          ((first | refine isRt_seq (e := ?_) ?_ ?_ | refine eqB_seq (e := ?_) ?_ ?_ | refine isDr_seq (e := ?_) ?_ ?_ | refine isEx_seq (e := ?_) ?_ ?_ | refine outRt_seq (e := ?_) ?_ ?_); rotate_left; focus (simp [q, q', q1, q1', hin, hw, hm, ad, rec, -bn_tup, -bn_lst] <;> exact rfl))
          (first | refine isRt_frz rfl ?_ | refine eqB_frz rfl ?_ | refine isDr_frz rfl ?_ | refine isEx_frz rfl ?_ | refine outRt_frz rfl ?_ | refine isRt_clr rfl ?_ | refine eqB_clr rfl ?_ | refine isDr_clr rfl ?_)
          rfl
      · have q1' : ¬ (st : Int) < to := by omega
        simp only [if_neg q, q1, decide_false, Bool.false_and, Bool.false_eq_true, if_false, List.append_nil, List.flatMap_nil]
        generalize F.map (pD st) = FD at *
        generalize natsD z.2.2 = MD at *
        generalize natsD z.2.1 = WD at *
        unfold lb_law_rounds_1
        ((first | refine isRt_seq (e := ?_) ?_ ?_ | refine eqB_seq (e := ?_) ?_ ?_ | refine isDr_seq (e := ?_) ?_ ?_ | refine isEx_seq (e := ?_) ?_ ?_ | refine outRt_seq (e := ?_) ?_ ?_); rotate_left; focus (simp [r1, r2, e3] <;> exact rfl))
        ((first | refine isRt_seq (e := ?_) ?_ ?_ | refine eqB_seq (e := ?_) ?_ ?_ | refine isDr_seq (e := ?_) ?_ ?_ | refine isEx_seq (e := ?_) ?_ ?_ | refine outRt_seq (e := ?_) ?_ ?_); rotate_left; focus (simp [q, q', q1, q1'] <;> exact rfl))
        (first | refine isRt_frz rfl ?_ | refine eqB_frz rfl ?_ | refine isDr_frz rfl ?_ | refine isEx_frz rfl ?_ | refine outRt_frz rfl ?_ | refine isRt_clr rfl ?_ | refine eqB_clr rfl ?_ | refine isDr_clr rfl ?_)
        rfl
  rw [key]
theorem law_rounds_ok {s : Sy} (ok : SyOk s) {st : Nat} : ∀ (f k d : Nat) (z : RZ), ZOk s d z → s.length ≤ d + f → f ≤ 10 → callV (callF tb (k + f)) f_law_rounds [syD s, .int (st : Nat), .int (z.1 : Nat), .tup (natsD z.2.1), .lst (natsD z.2.2)] = ret (.fr (.lst ((lr s st f z).map (pD st))))
  | 0, k, d, z, o, hf, _ => by
    have := o.d
    omega
  | f + 1, k, d, z, o, hf, h10 => by
    refine run_law_rounds (k := k + f) (r := .fr _) ?_
    have r := rng1M_i (i := 2) (n := 2) rfl (by omega)
    have t1 := lrn_turn (m := k + f) (f := f) ok o (st := st) (F := []) (h := 0) (by omega) (by simp) (by omega) fun y hy => law_rounds_ok ok f k (d + 1) y (o.nx ok (by omega) y hy) (by omega) (by omega)
    have l0 : (fnH s st z 0 ++ (nxH s st z 0).flatMap (lr s st f)).length ≤ 4096 := by
      have a := fnH_len s st z 0
      have b := nxH_len s st z 0
      have c := fl_len (lr s st f) (2 ^ 11) (nxH s st z 0) fun y _ => Nat.le_trans (lr_len s st f y) (Nat.pow_le_pow_right (by omega) (by omega))
      have l2 : (2 : Nat) ^ 11 = 2048 := by decide
      rw [List.length_append]
      rw [l2] at c
      have := Nat.mul_le_mul_right 2048 b
      omega
    have t2 := lrn_turn (m := k + f) (f := f) ok o (st := st) (F := [] ++ (fnH s st z 0 ++ (nxH s st z 0).flatMap (lr s st f))) (h := 1) (by omega) (by rw [List.nil_append]; omega) (by omega) fun y hy => law_rounds_ok ok f k (d + 1) y (o.nx ok (by omega) y hy) (by omega) (by omega)
    have lp : evS tb (callF tb (k + f)) lp_law_rounds_2 (lrE s st z [] .un .un) = some (.nx (lrE s st z (lr s st (f + 1) z) .un .un)) := by
      unfold lp_law_rounds_2
      rw [loop_u (ds := [.int 0, .int 1]) (e1 := lrE s st z [] .un .un) (by simp only [evI_rng1_v, ev_int, both_u, bnd_u, ret_u, intR_u, cont_v, Option.bind_some, intD_int, r]; rfl), forL_c]
      have t1 : turnF (fun d => asgT (.nm 6) (.v d)) (evB tb (callF tb (k + f)) lb_law_rounds_1) (.int 0) _ = _ := t1
      rw [t1]
      show forL _ _ [.int 1] _ = _
      rw [forL_c]
      have t2 : turnF (fun d => asgT (.nm 6) (.v d)) (evB tb (callF tb (k + f)) lb_law_rounds_1) (.int 1) _ = _ := t2
      rw [t2]
      rfl
    simp only [lrE, List.map_nil] at lp
    generalize (lr s st (f + 1) z).map (pD st) = RD at *
    generalize natsD z.2.2 = MD at *
    generalize natsD z.2.1 = WD at *
    generalize syD s = SD at *
    unfold b_law_rounds
    ((first | refine isRt_seq (e := ?_) ?_ ?_ | refine eqB_seq (e := ?_) ?_ ?_ | refine isDr_seq (e := ?_) ?_ ?_ | refine isEx_seq (e := ?_) ?_ ?_ | refine outRt_seq (e := ?_) ?_ ?_); rotate_left; focus (simp [] <;> exact rfl))
    ((first | refine isRt_seq (e := ?_) ?_ ?_ | refine eqB_seq (e := ?_) ?_ ?_ | refine isDr_seq (e := ?_) ?_ ?_ | refine isEx_seq (e := ?_) ?_ ?_ | refine outRt_seq (e := ?_) ?_ ?_); rotate_left; focus (simp [lp] <;> exact rfl))
    simp

end Ev.k71

set_option Elab.async false
set_option linter.all false
set_option maxRecDepth 100000
set_option maxHeartbeats 4000000
namespace Ev.k71
open PySem Ev
/-! deeds along walks -/
theorem c0_one (s : Sy) (x h : Nat) : c0 s x [h] = if h = 0 then (stp s h x).2 else 0 := by show (if h = 0 then (stp s h x).2 else 0) + 0 = _; omega
theorem ca_one (s : Sy) (x h : Nat) : ca s x [h] = (stp s h x).2 := by show (stp s h x).2 + 0 = _; omega
theorem atI20 (a b : D) : L2.atI [a, b] 0 = some a := rfl
theorem atI21 (a b : D) : L2.atI [a, b] 1 = some b := rfl
theorem ixN20 : L2.ixN 2 0 = some 0 := rfl
theorem ixN21 : L2.ixN 2 1 = some 1 := rfl
theorem augI (i j : Int) : augD .Add (.int i) (.int j) = some (.v (.int (i + j))) := rfl
abbrev diE (s : Sy) (w : List Nat) (z : Nat × Nat × Nat) (a b : Sl) : Env := [.v (syD s), .v (.int (z.1 : Nat)), .v (.tup (natsD w)), .ow false (.lst [.int (z.2.1 : Nat), .int (z.2.2 : Nat)]), a, b]
theorem deeds_in_ok {k : Nat} {s : Sy} (ok : SyOk s) {x : Nat} (hx : x < s.length) {w : List Nat} (hw : ∀ h ∈ w, h ≤ 1) : ∃ c1 : Nat, c0 s x w + c1 = ca s x w ∧ callV (callF tb (k+1)) f_deeds_in [syD s, .int (x : Nat), .tup (natsD w)] = ret (.fr (.lst [.int (c0 s x w : Nat), .int (c1 : Nat)])) := by
  obtain ⟨z, lp, h1, h2, h3⟩ := for_pre (as := fun d => asgT (.nm 4) (.v d)) (body := evB tb (callF tb k) lb_deeds_in_1) (fun (i : Nat) => D.int i) (fun z => diE s w z .un .un) (fun pre z => z.1 = en s x pre ∧ z.2.1 = c0 s x pre ∧ z.2.1 + z.2.2 = ca s x pre) w (x, 0, 0) ⟨rfl, rfl, rfl⟩ fun pre h post z e ⟨h1, h2, h3⟩ => by
    have hh : h ≤ 1 := hw h (by rw [e]; simp)
    have hz : z.1 < s.length := by rw [h1]; exact en_lt ok pre hx
    obtain ⟨r, r1, r2⟩ := stp_at hz hh
    have tf : turnF (fun d => asgT (.nm 4) (.v d)) (evB tb (callF tb k) lb_deeds_in_1) (.int (h : Nat)) (diE s w z .un .un) = (match evB tb (callF tb k) lb_deeds_in_1 (diE s w z (.v (.int (h : Nat))) .un) with
      | some (.ct e) => some (.nx e)
      | r => r) := rfl
    refine ⟨((stp s h z.1).1, z.2.1 + (if h = 0 then (stp s h z.1).2 else 0), z.2.2 + (if h = 0 then 0 else (stp s h z.1).2)), ?_, ?_, ?_, ?_⟩
    · rw [tf]
      have : evB tb (callF tb k) lb_deeds_in_1 (diE s w z (.v (.int (h : Nat))) .un) = some (.nx (diE s w ((stp s h z.1).1, z.2.1 + (if h = 0 then (stp s h z.1).2 else 0), z.2.2 + (if h = 0 then 0 else (stp s h z.1).2)) .un .un)) := by
        simp only [diE, stD] at *
        generalize syD s = SD at *
        generalize natsD w = WD at *
        unfold lb_deeds_in_1
        ((first | refine isRt_seq (e := ?_) ?_ ?_ | refine eqB_seq (e := ?_) ?_ ?_ | refine isDr_seq (e := ?_) ?_ ?_ | refine isEx_seq (e := ?_) ?_ ?_ | refine outRt_seq (e := ?_) ?_ ?_); rotate_left; focus (simp [r1, r2] <;> exact rfl))
        rcases Nat.le_one_iff_eq_zero_or_eq_one.mp hh with rfl | rfl
        · ((first | refine isRt_seq (e := ?_) ?_ ?_ | refine eqB_seq (e := ?_) ?_ ?_ | refine isDr_seq (e := ?_) ?_ ?_ | refine isEx_seq (e := ?_) ?_ ?_ | refine outRt_seq (e := ?_) ?_ ?_); rotate_left; focus (simp [atI20, ixN20, augI] <;> exact rfl))
          (first | refine isRt_frz rfl ?_ | refine eqB_frz rfl ?_ | refine isDr_frz rfl ?_ | refine isEx_frz rfl ?_ | refine outRt_frz rfl ?_ | refine isRt_clr rfl ?_ | refine eqB_clr rfl ?_ | refine isDr_clr rfl ?_)
          simp
        · ((first | refine isRt_seq (e := ?_) ?_ ?_ | refine eqB_seq (e := ?_) ?_ ?_ | refine isDr_seq (e := ?_) ?_ ?_ | refine isEx_seq (e := ?_) ?_ ?_ | refine outRt_seq (e := ?_) ?_ ?_); rotate_left; focus (simp [atI21, ixN21, augI] <;> exact rfl))
          (first | refine isRt_frz rfl ?_ | refine eqB_frz rfl ?_ | refine isDr_frz rfl ?_ | refine isEx_frz rfl ?_ | refine outRt_frz rfl ?_ | refine isRt_clr rfl ?_ | refine eqB_clr rfl ?_ | refine isDr_clr rfl ?_)
          simp
      rw [this]
    · show (stp s h z.1).1 = _
      rw [en_app, h1]; rfl
    · show z.2.1 + _ = _
      rw [c0_app, c0_one, h2, h1]
    · show z.2.1 + _ + (z.2.2 + _) = _
      rw [ca_app, ca_one, ← h3, h1]
      split <;> omega
  refine ⟨z.2.2, by rw [← h2]; exact h3, run_deeds_in (r := .fr _) ?_⟩
  have lp : evS tb (callF tb k) lp_deeds_in_2 [.v (syD s), .v (.int (x : Nat)), .v (.tup (natsD w)), .ow false (.lst [.int 0, .int 0]), .un, .un] = some (.nx (diE s w z .un .un)) := by
    unfold lp_deeds_in_2
    rw [loop_u (ds := w.map fun (i : Nat) => D.int i) (e1 := diE s w (x, 0, 0) .un .un) (by simp only [diE]; generalize syD s = SD; simp [natsD])]
    exact lp
  rw [← h2]
  simp only [diE] at lp
  generalize syD s = SD at *
  generalize natsD w = WD at *
  unfold b_deeds_in
  ((first | refine isRt_seq (e := ?_) ?_ ?_ | refine eqB_seq (e := ?_) ?_ ?_ | refine isDr_seq (e := ?_) ?_ ?_ | refine isEx_seq (e := ?_) ?_ ?_ | refine outRt_seq (e := ?_) ?_ ?_); rotate_left; focus (simp [] <;> exact rfl))
  ((first | refine isRt_seq (e := ?_) ?_ ?_ | refine eqB_seq (e := ?_) ?_ ?_ | refine isDr_seq (e := ?_) ?_ ?_ | refine isEx_seq (e := ?_) ?_ ?_ | refine outRt_seq (e := ?_) ?_ ?_); rotate_left; focus (simp [lp] <;> exact rfl))
  simp
/-! fractions -/
def low (f w : Nat) : Nat × Nat := (f / Nat.gcd f w, w / Nat.gcd f w)
def frD (p : Nat × Nat) : D := .tup [.int (p.1 : Nat), .int (p.2 : Nat)]
def isP (c : Option CO) (p : Nat × Nat) : Bool := match c with
  | some (.ret (.v (.tup [.int x, .int y])) _) => x == (p.1 : Int) && y == (p.2 : Int)
  | _ => false
theorem isP_ok {cf : CF} {f : Nat} {ds : List D} {p : Nat × Nat} (h : isP (cf f (ds.map Sl.v)) p = true) : callV cf f ds = ret (.v (frD p)) := by
  funext env
  unfold callV
  unfold isP at h
  split at h
  · rename_i x y e he
    rw [he]
    rw [Bool.and_eq_true] at h
    have h1 : x = p.1 := by simpa using h.1
    have h2 : y = p.2 := by simpa using h.2
    subst h1 h2
    rfl
  · cases h
theorem low_all {k : Nat} : ((List.range 7).all fun w => w == 0 || (List.range (w + 1)).all fun f => isP (callF tb (k+3) f_lowest [.v (.int (f : Nat)), .v (.int (w : Nat))]) (low f w)) = true := by kernel_rfl
theorem lowL_all {k : Nat} : ((List.range 7).all fun w => w == 0 || (List.range (w + 1)).all fun f => isP (callF tb (k+3) f_law_lowest [.v (.int (f : Nat)), .v (.int (w : Nat))]) (low f w)) = true := by kernel_rfl
theorem lowest_ok {k f w : Nat} (hf : f ≤ w) (h0 : 0 < w) (hw : w ≤ 6) : callV (callF tb (k+3)) f_lowest [.int (f : Nat), .int (w : Nat)] = ret (.v (frD (low f w))) := by
  have h := List.all_eq_true.mp (low_all (k := k)) w (List.mem_range.mpr (by omega))
  rw [Bool.or_eq_true] at h
  rcases h with h | h
  · have : w = 0 := by simpa using h
    omega
  · exact isP_ok (ds := [.int (f : Nat), .int (w : Nat)]) (List.all_eq_true.mp h f (List.mem_range.mpr (by omega)))
theorem law_lowest_ok {k f w : Nat} (hf : f ≤ w) (h0 : 0 < w) (hw : w ≤ 6) : callV (callF tb (k+3)) f_law_lowest [.int (f : Nat), .int (w : Nat)] = ret (.v (frD (low f w))) := by
  have h := List.all_eq_true.mp (lowL_all (k := k)) w (List.mem_range.mpr (by omega))
  rw [Bool.or_eq_true] at h
  rcases h with h | h
  · have : w = 0 := by simpa using h
    omega
  · exact isP_ok (ds := [.int (f : Nat), .int (w : Nat)]) (List.all_eq_true.mp h f (List.mem_range.mpr (by omega)))
theorem low_pos {f w : Nat} (h0 : 0 < w) : 0 < (low f w).2 := Nat.div_pos (Nat.le_of_dvd h0 (Nat.gcd_dvd_right f w)) (Nat.gcd_pos_of_pos_right f h0)
theorem low_eq {f w : Nat} (h0 : 0 < w) : ∃ g, 0 < g ∧ f = (low f w).1 * g ∧ w = (low f w).2 * g :=
  ⟨Nat.gcd f w, Nat.gcd_pos_of_pos_right f h0, (Nat.div_mul_cancel (Nat.gcd_dvd_left f w)).symm, (Nat.div_mul_cancel (Nat.gcd_dvd_right f w)).symm⟩
theorem low_le {f w : Nat} (hf : f ≤ w) (h0 : 0 < w) (hw : w ≤ 6) : (low f w).1 ≤ 6 ∧ (low f w).2 ≤ 6 := by
  have a : (low f w).1 ≤ f := Nat.div_le_self _ _
  have b : (low f w).2 ≤ w := Nat.div_le_self _ _
  omega
def bel (p q : Nat × Nat) : Bool := decide (p.1 * q.2 < q.1 * p.2)
theorem below_ok {k : Nat} {p q : Nat × Nat} (h1 : p.1 ≤ 1000) (h2 : p.2 ≤ 1000) (h3 : q.1 ≤ 1000) (h4 : q.2 ≤ 1000) : callV (callF tb (k+1)) f_below [frD p, frD q] = ret (.v (.bl (bel p q))) := by
  refine run_below (r := .v _) ?_
  have e1 : mulM (p.1 : Nat) (q.2 : Nat) = some (.v (.int ((p.1 : Nat) * (q.2 : Nat)))) := mulM_l (by omega) (by omega)
  have e2 : mulM (q.1 : Nat) (p.2 : Nat) = some (.v (.int ((q.1 : Nat) * (p.2 : Nat)))) := mulM_l (by omega) (by omega)
  have e3 : decide (((p.1 : Nat) : Int) * (q.2 : Nat) < (q.1 : Nat) * (p.2 : Nat)) = bel p q := by
    unfold bel
    refine decide_eq_decide.mpr ⟨fun h => by exact_mod_cast h, fun h => by exact_mod_cast h⟩
  simp [b_below, frD, e1, e2, ← e3]
/-- the least one, the greatest one -/
def fstep (z : (Nat × Nat) × (Nat × Nat)) (p : Nat × Nat) : (Nat × Nat) × (Nat × Nat) := (if bel p z.1 then p else z.1, if bel z.2 p then p else z.2)
theorem fle_trans {a b c : Nat × Nat} (hb : 0 < b.2) (h1 : a.1 * b.2 ≤ b.1 * a.2) (h2 : b.1 * c.2 ≤ c.1 * b.2) : a.1 * c.2 ≤ c.1 * a.2 := by
  have h3 := Nat.mul_le_mul_right c.2 h1
  have h4 := Nat.mul_le_mul_right a.2 h2
  have h5 : (a.1 * c.2) * b.2 ≤ (c.1 * a.2) * b.2 := by
    calc (a.1 * c.2) * b.2 = a.1 * b.2 * c.2 := by rw [Nat.mul_right_comm]
      _ ≤ b.1 * a.2 * c.2 := h3
      _ = b.1 * c.2 * a.2 := by rw [Nat.mul_right_comm]
      _ ≤ c.1 * b.2 * a.2 := h4
      _ = (c.1 * a.2) * b.2 := by rw [Nat.mul_right_comm]
  exact Nat.le_of_mul_le_mul_right h5 hb
theorem fold_lm : ∀ (l : List (Nat × Nat)) (z : (Nat × Nat) × (Nat × Nat)), (∀ p ∈ l, 0 < p.2) → 0 < z.1.2 → 0 < z.2.2 →
    ((l.foldl fstep z).1 = z.1 ∨ (l.foldl fstep z).1 ∈ l) ∧ ((l.foldl fstep z).2 = z.2 ∨ (l.foldl fstep z).2 ∈ l) ∧ (l.foldl fstep z).1.1 * z.1.2 ≤ z.1.1 * (l.foldl fstep z).1.2 ∧ z.2.1 * (l.foldl fstep z).2.2 ≤ (l.foldl fstep z).2.1 * z.2.2 ∧
    ∀ p ∈ l, (l.foldl fstep z).1.1 * p.2 ≤ p.1 * (l.foldl fstep z).1.2 ∧ p.1 * (l.foldl fstep z).2.2 ≤ (l.foldl fstep z).2.1 * p.2
  | [], z, _, _, _ => ⟨.inl rfl, .inl rfl, Nat.le_refl _, Nat.le_refl _, fun _ h => nomatch h⟩
  | p :: l, z, hp, h1, h2 => by
    have hp0 := hp p List.mem_cons_self
    have q1 : 0 < (fstep z p).1.2 := by unfold fstep; simp only; split <;> assumption
    have q2 : 0 < (fstep z p).2.2 := by unfold fstep; simp only; split <;> assumption
    obtain ⟨a, b, c, d, e⟩ := fold_lm l (fstep z p) (fun r hr => hp r (List.mem_cons_of_mem _ hr)) q1 q2
    have s1 : (fstep z p).1.1 * z.1.2 ≤ z.1.1 * (fstep z p).1.2 ∧ (fstep z p).1.1 * p.2 ≤ p.1 * (fstep z p).1.2 ∧ ((fstep z p).1 = z.1 ∨ (fstep z p).1 = p) := by
      unfold fstep bel
      simp only
      split
      · rename_i q
        have q := of_decide_eq_true q
        exact ⟨Nat.le_of_lt q, Nat.le_refl _, .inr rfl⟩
      · rename_i q
        have q := of_decide_eq_false (Bool.not_eq_true _ ▸ q)
        exact ⟨Nat.le_refl _, Nat.le_of_not_lt q, .inl rfl⟩
    have s2 : z.2.1 * (fstep z p).2.2 ≤ (fstep z p).2.1 * z.2.2 ∧ p.1 * (fstep z p).2.2 ≤ (fstep z p).2.1 * p.2 ∧ ((fstep z p).2 = z.2 ∨ (fstep z p).2 = p) := by
      unfold fstep bel
      simp only
      split
      · rename_i q
        have q := of_decide_eq_true q
        exact ⟨Nat.le_of_lt q, Nat.le_refl _, .inr rfl⟩
      · rename_i q
        have q := of_decide_eq_false (Bool.not_eq_true _ ▸ q)
        exact ⟨Nat.le_refl _, Nat.le_of_not_lt q, .inl rfl⟩
    rw [List.foldl_cons]
    refine ⟨?_, ?_, fle_trans q1 c s1.1, fle_trans q2 s2.1 d, fun r hr => ?_⟩
    · rcases a with a | a
      · rcases s1.2.2 with z1 | z1
        · exact .inl (a.trans z1)
        · exact .inr (by rw [a, z1]; exact List.mem_cons_self)
      · exact .inr (List.mem_cons_of_mem _ a)
    · rcases b with a | a
      · rcases s2.2.2 with z1 | z1
        · exact .inl (a.trans z1)
        · exact .inr (by rw [a, z1]; exact List.mem_cons_self)
      · exact .inr (List.mem_cons_of_mem _ a)
    · rcases List.mem_cons.mp hr with rfl | hr
      · exact ⟨fle_trans q1 c s1.2.1, fle_trans q2 s2.2.1 d⟩
      · exact e r hr
/-- shares of rounds that walks lead to -/
def Shr (s : Sy) (x : Nat) (p : Nat × Nat) : Prop := 0 < p.2 ∧ ∃ z ∈ rdsL s, Rch s x z.1 ∧ p = (c0 s z.1 z.2, ca s z.1 z.2)
theorem Shr.le {s : Sy} (ok : SyOk s) {x : Nat} {p : Nat × Nat} (h : Shr s x p) : p.1 ≤ p.2 ∧ p.2 ≤ 6 := by
  obtain ⟨_, z, hz, _, rfl⟩ := h
  obtain ⟨a, b, c, d⟩ := rdsL_ok ok z hz
  have := ca_le ok z.2 a
  have := ok.most
  exact ⟨c0_le s z.2 z.1, by show ca s z.1 z.2 ≤ 6; omega⟩
structure ShOk (s : Sy) (x : Nat) (o : Option ((Nat × Nat) × (Nat × Nat))) : Prop where
  non : o = none ↔ ∀ p, ¬ Shr s x p
  one : ∀ a b, o = some (a, b) → ∃ p, Shr s x p ∧ a = low p.1 p.2
  two : ∀ a b, o = some (a, b) → ∃ p, Shr s x p ∧ b = low p.1 p.2
  all : ∀ a b, o = some (a, b) → ∀ p, Shr s x p → a.1 * p.2 ≤ p.1 * a.2 ∧ p.1 * b.2 ≤ b.1 * p.2
/-- .. and of all round walks -/
theorem ShOk.rounds {s : Sy} (ok : SyOk s) {x : Nat} (hx : x < s.length) {a b : Nat × Nat} (h : ShOk s x (some (a, b))) {y : Nat} (r : Rch s x y) {w : List Nat} (hw : ∀ h ∈ w, h ≤ 1) (he : en s y w = y) : a.1 * ca s y w ≤ c0 s y w * a.2 ∧ c0 s y w * b.2 ≤ b.1 * ca s y w := by
  refine rounds_ind (s := s) (C := fun y w => (∀ h ∈ w, h ≤ 1) → Rch s x y → a.1 * ca s y w ≤ c0 s y w * a.2 ∧ c0 s y w * b.2 ≤ b.1 * ca s y w) ?_ ?_ ?_ w.length y w rfl hw he hw r
  · intro y _ _
    exact ⟨by show a.1 * 0 ≤ _; omega, by show 0 * b.2 ≤ _; omega⟩
  · intro y u v c hv he hc hw r
    have w1 : ∀ h ∈ u, h ≤ 1 := fun h hh => hw h (List.mem_append_left _ hh)
    have w2 : ∀ h ∈ v, h ≤ 1 := fun h hh => hw h (List.mem_append_right _ (List.mem_append_left _ hh))
    have w3 : ∀ h ∈ c, h ≤ 1 := fun h hh => hw h (List.mem_append_right _ (List.mem_append_right _ hh))
    obtain ⟨p1, p2⟩ := hv w2 (r.trans ⟨u, w1, rfl⟩)
    obtain ⟨q1, q2⟩ := hc (fun h hh => by
      rcases List.mem_append.mp hh with hh | hh
      · exact w1 h hh
      · exact w3 h hh) r
    rw [c0_app, ca_app] at q1 q2
    rw [c0_app, ca_app, c0_app, ca_app, he]
    constructor
    · simp only [Nat.mul_add, Nat.add_mul] at *; omega
    · simp only [Nat.mul_add, Nat.add_mul] at *; omega
  · intro y w hne hw he nd _ r
    obtain ⟨y2, v, rr, ⟨u, u1, u2⟩, v1, v2, v3, v4, v5, v6, v7, v8⟩ := rot_least hne hw he nd
    have r2 : Rch s x y2 := r.trans ⟨u, u1, u2⟩
    rw [← v7, ← v8]
    by_cases q : ca s y2 v = 0
    · have := c0_le s v y2
      have q2 : c0 s y2 v = 0 := by omega
      rw [q, q2]
      simp
    · have m := rdsL_mem ok (r2.lt ok hx) v1 v2 v3 v4 v5 v6
      exact h.all a b rfl (c0 s y2 v, ca s y2 v) ⟨by show 0 < ca s y2 v; omega, _, m, r2, rfl⟩

end Ev.k71

set_option Elab.async false
set_option linter.all false
set_option maxRecDepth 100000
set_option maxHeartbeats 4000000
namespace Ev.k71
open PySem Ev
/-! a drawn system -/
theorem take_ok {k : Nat} (dr : DrT) {m : Nat} (h1 : 0 < m) (h2 : m < 1073741824) : ∃ (r : Nat) (dr' : DrT), Drw (callF tb (k+1)) f_law_take dr [.int m] (.v (.int r)) dr' ∧ r < m := take_drw (fn_law_take.trans rfl) dr h1 h2
def StOk (n : Nat) (q : Nat × Nat) : Prop := q.1 < n ∧ q.2 ≤ 1
theorem system_turn {k : Nat} {M : Sl} {n kind st h : Nat} {F : Sl} {dr : DrT} {acc : List (Nat × Nat)} (hn : 0 < n) (hn2 : n < 1000) (hk : kind < 4) (hs : st < n) (hl : acc.length < 100) : ∃ (dr' : DrT) (q : Nat × Nat), StOk n q ∧
    turnF (fun d => asgT (.nm 7) (.v d)) (evB tb (callF tb (k+1)) lb_law_system_1) (.int h) [.ow true dr.o, M, .v (.int n), .v (.int kind), F, .v (.int st), .ow false (.lst (acc.map stD)), .un, .un, .un] = some (.nx [.ow true dr'.o, M, .v (.int n), .v (.int kind), F, .v (.int st), .ow false (.lst ((acc ++ [q]).map stD)), .un, .un, .un]) := by
  have hl' : acc.length < 16777216 := by omega
  have to : ∃ (dr' : DrT) (t : Nat), t < n ∧ evS tb (callF tb (k+1)) (.asg (.nm 8) (.ite (.and (.cmp .Eq (.var 3) (.int 1)) (.cmp .Eq (.call f_law_take (.cons (.var 0) (.cons (.int 2) .nil))) (.int 0))) (.var 5) (.call f_law_take (.cons (.var 0) (.cons (.var 2) .nil))))) [.ow true dr.o, M, .v (.int n), .v (.int kind), F, .v (.int st), .ow false (.lst (acc.map stD)), .v (.int h), .un, .un] = some (.nx [.ow true dr'.o, M, .v (.int n), .v (.int kind), F, .v (.int st), .ow false (.lst (acc.map stD)), .v (.int h), .v (.int t), .un]) := by
    by_cases q : kind = 1
    · obtain ⟨r, dr1, h1, h2⟩ := take_ok (k := k) dr (m := 2) (by omega) (by omega)
      have h1 : Drw (callF tb (k+1)) f_law_take dr [.int 2] (.v (.int r)) dr1 := h1
      by_cases q2 : r = 0
      · subst q2
        refine ⟨dr1, st, hs, ?_⟩
        simp [q, h1.at0]
      · obtain ⟨r2, dr2, h3, h4⟩ := take_ok (k := k) dr1 (m := n) hn (by omega)
        refine ⟨dr2, r2, h4, ?_⟩
        simp [q, h1.at0, q2, h3.at0]
    · obtain ⟨r2, dr2, h3, h4⟩ := take_ok (k := k) dr (m := n) hn (by omega)
      refine ⟨dr2, r2, h4, ?_⟩
      have q' : ¬ (kind : Int) = 1 := by omega
      simp [q, q', h3.at0]
  obtain ⟨dr1, t, ht, e1⟩ := to
  obtain ⟨r, dr2, h1, h2⟩ := take_ok (k := k) dr1 (m := 5) (by omega) (by omega)
  have h1 : Drw (callF tb (k+1)) f_law_take dr1 [.int 5] (.v (.int r)) dr2 := h1
  have lim : ∃ c : Int, ixD (.lst [.int 2, .int 1, .int 4, .int 1]) (.int kind) = some (.int c) := by
    have : kind = 0 ∨ kind = 1 ∨ kind = 2 ∨ kind = 3 := by omega
    rcases this with rfl | rfl | rfl | rfl
    · exact ⟨2, rfl⟩
    · exact ⟨1, rfl⟩
    · exact ⟨4, rfl⟩
    · exact ⟨1, rfl⟩
  obtain ⟨c, hc⟩ := lim
  have tf : turnF (fun d => asgT (.nm 7) (.v d)) (evB tb (callF tb (k+1)) lb_law_system_1) (.int h) [.ow true dr.o, M, .v (.int n), .v (.int kind), F, .v (.int st), .ow false (.lst (acc.map stD)), .un, .un, .un] = (match evB tb (callF tb (k+1)) lb_law_system_1 [.ow true dr.o, M, .v (.int n), .v (.int kind), F, .v (.int st), .ow false (.lst (acc.map stD)), .v (.int h), .un, .un] with
    | some (.ct e) => some (.nx e)
    | r => r) := rfl
  rw [tf]
  unfold lb_law_system_1
  rw [evB_cons, e1]
  by_cases q : (r : Int) < c
  · refine ⟨dr2, (t, 1), ⟨ht, by omega⟩, ?_⟩
    simp [h1.at0, hc, q, stD, hl']
  · refine ⟨dr2, (t, 0), ⟨ht, by omega⟩, ?_⟩
    simp [h1.at0, hc, q, stD, hl']
theorem system_in {k : Nat} {M : Sl} {n kind st : Nat} {F : Sl} {dr : DrT} (hn : 0 < n) (hn2 : n < 1000) (hk : kind < 4) (hs : st < n) : ∃ (dr' : DrT) (q1 q2 : Nat × Nat), StOk n q1 ∧ StOk n q2 ∧
    evS tb (callF tb (k+1)) lp_law_system_2 [.ow true dr.o, M, .v (.int n), .v (.int kind), F, .v (.int st), .ow false (.lst []), .un, .un, .un] = some (.nx [.ow true dr'.o, M, .v (.int n), .v (.int kind), F, .v (.int st), .ow false (.lst [stD q1, stD q2]), .un, .un, .un]) := by
  obtain ⟨d1, q1, o1, t1⟩ := system_turn (k := k) (M := M) (F := F) (dr := dr) (h := 0) (acc := []) hn hn2 hk hs (by simp)
  obtain ⟨d2, q2, o2, t2⟩ := system_turn (k := k) (M := M) (F := F) (dr := d1) (h := 1) (acc := [q1]) hn hn2 hk hs (by simp)
  refine ⟨d2, q1, q2, o1, o2, ?_⟩
  have t1 : turnF (fun d => asgT (.nm 7) (.v d)) (evB tb (callF tb (k+1)) lb_law_system_1) (.int 0) [.ow true dr.o, M, .v (.int n), .v (.int kind), F, .v (.int st), .ow false (.lst []), .un, .un, .un] = _ := t1
  have t2 : turnF (fun d => asgT (.nm 7) (.v d)) (evB tb (callF tb (k+1)) lb_law_system_1) (.int 1) [.ow true d1.o, M, .v (.int n), .v (.int kind), F, .v (.int st), .ow false (.lst [stD q1]), .un, .un, .un] = _ := t2
  have r2 : rng1M 2 = ret [D.int 0, D.int 1] := rng1M_i (n := 2) rfl (by omega)
  unfold lp_law_system_2
  rw [loop_u (ds := [.int 0, .int 1]) (e1 := [.ow true dr.o, M, .v (.int n), .v (.int kind), F, .v (.int st), .ow false (.lst []), .un, .un, .un]) (by simp [r2]), forL_c, t1]
  simp only [List.nil_append, List.map_cons, List.map_nil]
  rw [forL_c, t2]
  rfl
theorem law_system_ok {k : Nat} (dr : DrT) {most : Nat} (h1 : 0 < most) (h2 : most ≤ 6) : ∃ (dr' : DrT) (s : Sy), SyOk s ∧ s.length ≤ most ∧ Drw (callF tb (k+2)) f_law_system dr [.int most] (.v (syD s)) dr' := by
  obtain ⟨m, d1, t1, l1⟩ := take_ok (k := k) dr (m := most) h1 (by omega)
  obtain ⟨kind, d2, t2, l2⟩ := take_ok (k := k) d1 (m := 4) (by omega) (by omega)
  have t2 : Drw (callF tb (k+1)) f_law_take d1 [.int 4] (.v (.int kind)) d2 := t2
  have lp := for_pre (as := fun d => asgT (.nm 5) (.v d)) (body := evB tb (callF tb (k+1)) lb_law_system_3) (fun (i : Nat) => D.int i) (fun (z : DrT × Sy) => [.ow true z.1.o, .v (.int most), .v (.int (m + 1 : Nat)), .v (.int kind), .ow false (.lst (z.2.map rwD)), .un, .un, .un, .un, .un]) (fun pre z => z.2.length = pre.length ∧ ∀ p ∈ z.2, StOk (m + 1) p.1 ∧ StOk (m + 1) p.2) (List.range (m + 1)) (d2, []) (by simp) fun pre x post z e hz => by
    obtain ⟨z1, z2⟩ := hz
    have hx : x < m + 1 := by
      have : x ∈ List.range (m + 1) := by rw [e]; simp
      exact List.mem_range.mp this
    have hpl : pre.length < m + 1 := by
      have := congrArg List.length e
      simp at this
      omega
    obtain ⟨d3, q1, q2, o1, o2, i⟩ := system_in (k := k) (M := .v (.int most)) (F := .ow false (.lst (z.2.map rwD))) (dr := z.1) (n := m + 1) (kind := kind) (st := x) (by omega) (by omega) l2 hx
    refine ⟨(d3, z.2 ++ [(q1, q2)]), ?_, by simp [z1], fun p hp => ?_⟩
    · have hl : z.2.length < 16777216 := by omega
      rw [turnF_u]
      simp [lb_law_system_3] at i ⊢
      simp [i, hl, stD]
    · rcases List.mem_append.mp hp with hp | hp
      · exact z2 p hp
      · rw [List.mem_singleton.mp hp]; exact ⟨o1, o2⟩
  obtain ⟨z, h3, h4, h5⟩ := lp
  rw [List.length_range] at h4
  refine ⟨z.1, z.2, ⟨by omega, by omega, fun p hp => ?_⟩, by omega, run_law_system ?_⟩
  · obtain ⟨a, b⟩ := h5 p hp
    rw [h4]
    exact ⟨a.1, a.2, b.1, b.2⟩
  · have lp : evS tb (callF tb (k+1)) lp_law_system_4 [.ow true d2.o, .v (.int most), .v (.int (1 + m)), .v (.int kind), .ow false (.lst []), .un, .un, .un, .un, .un] = some (.nx [.ow true z.1.o, .v (.int most), .v (.int (1 + m)), .v (.int kind), .ow false (.lst (z.2.map rwD)), .un, .un, .un, .un, .un]) := by
      have c : ((m + 1 : Nat) : Int) = 1 + m := by omega
      rw [← c]
      unfold lp_law_system_4
      rw [loop_u (ds := (List.range (m + 1)).map fun (i : Nat) => D.int i) (e1 := [.ow true d2.o, .v (.int most), .v (.int (m + 1 : Nat)), .v (.int kind), .ow false (.lst []), .un, .un, .un, .un, .un])]
      · exact h3
      · have := rng1M_n (n := m + 1) (by omega)
        simp only [evI_rng1_v, ev_var, both_u, bnd_u, intR_u]
        simp [this] at *
    simp [b_law_system, t1.at0, t2.at0, lp]
    rfl

/-! odd things -/
def malD : D := .str "<malformed>"
/-- what is no system -/
def oddSys : List D := [.non, .tup [], .int 5, .lst [.tup [.tup [.int 0, .int 0], .tup [.int 0, .int 0]]], .tup [.tup [.tup [.int 0, .int 0]]], .tup [.tup [.tup [.int 1, .int 0], .tup [.int 0, .int 0]]], .tup [.tup [.tup [.int 0, .int 2], .tup [.int 0, .int 0]]], .tup [.tup [.tup [.int 0, .bl true], .tup [.int 0, .int 0]]], .tup [.tup [.tup [.int 0, .int 0], .tup [.int 0, .int 0], .tup [.int 0, .int 0]]], .tup [.tup [.tup [.int (-1), .int 0], .tup [.int 0, .int 0]]],
  .tup [.lst [.tup [.int 0, .int 0], .tup [.int 0, .int 0]]], .tup [.tup [.tup [.int 0, .int 0], .lst [.int 0, .int 0]]], .tup [.tup [.tup [.int 0, .int 0], .tup [.int 0, .int 0]], .tup [.tup [.int 0, .int 0], .tup [.int 0, .int 0]], .tup [.tup [.int 0, .int 0], .tup [.int 0, .int 0]], .tup [.tup [.int 0, .int 0], .tup [.int 0, .int 0]], .tup [.tup [.int 0, .int 0], .tup [.int 0, .int 0]], .tup [.tup [.int 0, .int 0], .tup [.int 0, .int 0]], .tup [.tup [.int 0, .int 0], .tup [.int 0, .int 0]]], .tup [.tup [.tup [.int 0], .tup [.int 0, .int 0]]], .tup [.non]]
def isNonD : D → Bool
  | .non => true
  | _ => false
def isEx1 (c : Option CO) : Bool := match c with
  | some (.ex x _) => x.cls == 1 && isNonD x.arg
  | _ => false
theorem isEx1_ok {cf : CF} {f : Nat} {ds : List D} (h : isEx1 (cf f (ds.map Sl.v)) = true) : callV cf f ds = rais ⟨1, .non⟩ := by
  funext env
  unfold callV
  cases q : cf f (ds.map Sl.v) with
  | none => rw [q] at h; cases h
  | some c =>
    rw [q] at h
    cases c with
    | ret r e => cases h
    | ex x e =>
      obtain ⟨c, a⟩ := x
      have h : (c == 1 && isNonD a) = true := h
      rw [Bool.and_eq_true] at h
      obtain ⟨h1, h2⟩ := h
      have : c = 1 := by simpa using h1
      subst this
      cases a with
      | non => rfl
      | _ => cases h2
def isF (c : Option CO) : Bool := match c with
  | some (.ret (.v (.bl false)) _) => true
  | _ => false
theorem isF_ok {cf : CF} {f : Nat} {ds : List D} (h : isF (cf f (ds.map Sl.v)) = true) : callV cf f ds = ret (.v (.bl false)) := by
  funext env
  unfold callV
  unfold isF at h
  split at h
  · rename_i e
    rw [e]; rfl
  · cases h
theorem rep7 : binD .Mult (.tup [.tup [.tup [.int 0, .int 0], .tup [.int 0, .int 0]]]) (.int 7) = some (.v (.tup [.tup [.tup [.int 0, .int 0], .tup [.int 0, .int 0]], .tup [.tup [.int 0, .int 0], .tup [.int 0, .int 0]], .tup [.tup [.int 0, .int 0], .tup [.int 0, .int 0]], .tup [.tup [.int 0, .int 0], .tup [.int 0, .int 0]], .tup [.tup [.int 0, .int 0], .tup [.int 0, .int 0]], .tup [.tup [.int 0, .int 0], .tup [.int 0, .int 0]], .tup [.tup [.int 0, .int 0], .tup [.int 0, .int 0]]])) := rfl
theorem odd_sys_ok {k : Nat} (dr : DrT) : ∃ (dr' : DrT) (d : D), d ∈ oddSys ∧ Drw (callF tb (k+2)) f_law_odd_system dr [] (.v d) dr' := by
  obtain ⟨r, d1, h1, h2⟩ := take_ok (k := k) dr (m := 15) (by omega) (by omega)
  have h1 : Drw (callF tb (k+1)) f_law_take dr [.int 15] (.v (.int r)) d1 := h1
  have hl : r < oddSys.length := h2
  refine ⟨d1, oddSys[r], List.getElem_mem hl, run_law_odd_system ?_⟩
  have hd : oddSys[r]? = some oddSys[r] := List.getElem?_eq_getElem hl
  generalize oddSys[r] = d at hd
  unfold oddSys at hd
  simp [b_law_odd_system, h1.at0, rep7, sizeLine_eq, ix_lst, hd]

def badSt (s : Sy) : List D := [.non, .int (-1), .int (s.length : Nat), .bl true, .str "0"]
theorem bad_state {k : Nat} {s : Sy} {d : D} (h : d ∈ badSt s) : callV (callF tb (k+3)) f_check_state [syD s, d] = rais ⟨1, .non⟩ := by
  refine rex_check_state ?_
  have c : callV (callF tb (k+2)) f_is_state [syD s, d] = ret (.v (.bl false)) := by
    refine run_is_state (r := .v _) ?_
    simp only [badSt, List.mem_cons, List.not_mem_nil, or_false] at h
    rcases h with rfl | rfl | rfl | rfl | rfl
    · have : callV (callF tb (k+1)) f_is_whole [.non] = ret (.v (.bl false)) := run_is_whole (r := .v _) (by simp [b_is_whole])
      simp [b_is_state, this]
    · simp [b_is_state]
    · simp [b_is_state]
    · have : callV (callF tb (k+1)) f_is_whole [.bl true] = ret (.v (.bl false)) := run_is_whole (r := .v _) (by simp [b_is_whole])
      simp [b_is_state, this]
    · have : callV (callF tb (k+1)) f_is_whole [.str "0"] = ret (.v (.bl false)) := run_is_whole (r := .v _) (by simp [b_is_whole])
      simp [b_is_state, this]
  simp [b_check_state, c]
theorem odd_st_ok {k : Nat} (dr : DrT) (s : Sy) : ∃ (dr' : DrT) (d : D), d ∈ badSt s ∧ Drw (callF tb (k+2)) f_law_odd_state dr [syD s] (.v d) dr' := by
  obtain ⟨r, d1, h1, h2⟩ := take_ok (k := k) dr (m := 5) (by omega) (by omega)
  have h1 : Drw (callF tb (k+1)) f_law_take dr [.int 5] (.v (.int r)) d1 := h1
  have hl : r < (badSt s).length := h2
  refine ⟨d1, (badSt s)[r], List.getElem_mem hl, run_law_odd_state ?_⟩
  have hd : (badSt s)[r]? = some (badSt s)[r] := List.getElem?_eq_getElem hl
  generalize (badSt s)[r] = d at hd
  unfold badSt at hd
  simp [b_law_odd_state, h1.at0, ix_lst, hd]
theorem odd_sys_all {k : Nat} : (oddSys.all fun d => isEx1 (callF tb (k+4) f_check_system [.v d])) = true := by kernel_rfl
theorem odd_sys {k : Nat} {d : D} (h : d ∈ oddSys) : callV (callF tb (k+4)) f_check_system [d] = rais ⟨1, .non⟩ := isEx1_ok (List.all_eq_true.mp (odd_sys_all (k := k)) d h)
theorem law_walk_ok {k : Nat} (dr : DrT) {most : Nat} (hm : most ≤ 10000) : ∃ (dr' : DrT) (w : List Nat), (∀ x ∈ w, x ≤ 1) ∧ w.length ≤ most ∧ Drw (callF tb (k+2)) f_law_walk dr [.int most] (.v (.tup (natsD w))) dr' := by
  obtain ⟨m, d1, m1, m2⟩ := take_ok (k := k) dr (m := most + 1) (by omega) (by omega)
  have c : ((most + 1 : Nat) : Int) = most + 1 := by omega
  rw [c] at m1
  have r := rng1M_n (n := m) (by omega)
  obtain ⟨d2, D2, lc, bs, e1, e2, e3⟩ := lc_pre (tb := tb) (cf := callF tb (k+1)) (elt := .call f_law_take (.cons (.var 0) (.cons (.int 2) .nil))) (t := .nm 2) (it := .rng1 (.call f_law_take (.cons (.var 0) (.cons (.bin .Add (.var 1) (.int 1)) .nil)))) (c := .bl true) (own := [2]) (env := [.ow true dr.o, .v (.int most), .un]) (e1 := [.ow true d1.o, .v (.int most), .un])
    (List.range m) (fun (i : Nat) => D.int i) (fun z : DrT => [.ow true z.o, .v (.int most), .un]) (fun pre _ acc => ∃ b : List Nat, acc = natsD b ∧ b.length = pre.length ∧ ∀ x ∈ b, x ≤ 1) d1 (by simp [m1.at0, r]) (by simp) (by simp; omega) ⟨[], rfl, rfl, by simp⟩ fun pre x post z acc e ⟨b, q1, q2, q3⟩ => by
      obtain ⟨v, d', v1, v2⟩ := take_ok (k := k) z (m := 2) (by omega) (by omega)
      have v1 : Drw (callF tb (k+1)) f_law_take z [.int 2] (.v (.int v)) d' := v1
      refine ⟨d', .int v, by simp [v1.at0], b ++ [v], by rw [q1, natsD_app]; rfl, by simp [q2], fun y hy => ?_⟩
      rcases List.mem_append.mp hy with hy | hy
      · exact q3 y hy
      · rw [List.mem_singleton.mp hy]; omega
  have lc : (ev tb (callF tb (k+1)) lc_law_walk_1).1 [.ow true dr.o, .v (.int most), .un] = _ := lc
  subst e1
  rw [List.length_range] at e2
  refine ⟨d2, bs, e3, by omega, run_law_walk ?_⟩
  simp [b_law_walk, lc]
/-! the hands whose deeds are finished -/
def dl (s : Sy) : Nat → List Nat → List Nat
  | _, [] => []
  | x, h :: w => (if (stp s h x).2 = 1 then [h] else []) ++ dl s (stp s h x).1 w
theorem dl_app (s : Sy) : ∀ (a b : List Nat) (x : Nat), dl s x (a ++ b) = dl s x a ++ dl s (en s x a) b
  | [], _, _ => rfl
  | h :: a, b, x => by
    show (if (stp s h x).2 = 1 then [h] else []) ++ dl s (stp s h x).1 (a ++ b) = ((if (stp s h x).2 = 1 then [h] else []) ++ dl s (stp s h x).1 a) ++ _
    rw [dl_app s a b, List.append_assoc]; rfl
theorem dl_one (s : Sy) (x h : Nat) : dl s x [h] = if (stp s h x).2 = 1 then [h] else [] := by show (if (stp s h x).2 = 1 then [h] else []) ++ [] = _; rw [List.append_nil]
theorem dl_len {s : Sy} (ok : SyOk s) : ∀ (w : List Nat) {x : Nat}, x < s.length → (dl s x w).length = ca s x w
  | [], _, _ => rfl
  | h :: w, x, hx => by
    obtain ⟨h1, h2⟩ := stp_ok ok hx h
    show ((if (stp s h x).2 = 1 then [h] else []) ++ dl s (stp s h x).1 w).length = (stp s h x).2 + ca s (stp s h x).1 w
    rw [List.length_append, dl_len ok w h1]
    split
    · rename_i q; rw [q]; rfl
    · simp; omega
theorem dl_c0 {s : Sy} (ok : SyOk s) : ∀ (w : List Nat) {x : Nat}, x < s.length → ((dl s x w).filter fun h => decide (h = 0)).length = c0 s x w
  | [], _, _ => rfl
  | h :: w, x, hx => by
    obtain ⟨h1, h2⟩ := stp_ok ok hx h
    show (((if (stp s h x).2 = 1 then [h] else []) ++ dl s (stp s h x).1 w).filter _).length = (if h = 0 then (stp s h x).2 else 0) + c0 s (stp s h x).1 w
    rw [List.filter_append, List.length_append, dl_c0 ok w h1]
    by_cases q : (stp s h x).2 = 1
    · rw [if_pos q, q]
      by_cases z : h = 0 <;> simp [z]
    · rw [if_neg q]
      have : (stp s h x).2 = 0 := by omega
      rw [this]
      simp
theorem dl_bit (s : Sy) : ∀ (w : List Nat) (x : Nat), (∀ h ∈ w, h ≤ 1) → ∀ h ∈ dl s x w, h ≤ 1
  | [], _, _, h, hh => nomatch hh
  | h0 :: w, x, hw, h, hh => by
    rcases List.mem_append.mp (show h ∈ (if (stp s h0 x).2 = 1 then [h0] else []) ++ dl s (stp s h0 x).1 w from hh) with hh | hh
    · split at hh
      · rw [List.mem_singleton.mp hh]; exact hw h0 List.mem_cons_self
      · cases hh
    · exact dl_bit s w _ (fun a ha => hw a (List.mem_cons_of_mem _ ha)) h hh
theorem law_walked_ok {k : Nat} {s : Sy} (ok : SyOk s) {x : Nat} (hx : x < s.length) {w : List Nat} (hw : ∀ h ∈ w, h ≤ 1) (hl : w.length ≤ 100000) : callV (callF tb (k+1)) f_law_walked [syD s, .int (x : Nat), .tup (natsD w)] = ret (.v (.tup [.int (en s x w : Nat), .tup (natsD (dl s x w))])) := by
  obtain ⟨z, lp, h1, h2⟩ := for_pre (as := fun d => asgT (.nm 4) (.v d)) (body := evB tb (callF tb k) lb_law_walked_1) (fun (i : Nat) => D.int i) (fun z : Nat × List Nat => [.v (syD s), .v (.int (z.1 : Nat)), .v (.tup (natsD w)), .v (.tup (natsD z.2)), .un, .un]) (fun pre z => z.1 = en s x pre ∧ z.2 = dl s x pre) w (x, []) ⟨rfl, rfl⟩ fun pre h post z e ⟨h1, h2⟩ => by
    have hh : h ≤ 1 := hw h (by rw [e]; simp)
    have hz : z.1 < s.length := by rw [h1]; exact en_lt ok pre hx
    have hpl : z.2.length ≤ 100000 := by
      rw [h2, dl_len ok pre hx]
      have := ca_le ok pre hx
      have e2 := congrArg List.length e
      simp at e2
      omega
    obtain ⟨r, r1, r2⟩ := stp_at hz hh
    have tf : turnF (fun d => asgT (.nm 4) (.v d)) (evB tb (callF tb k) lb_law_walked_1) (.int (h : Nat)) [.v (syD s), .v (.int (z.1 : Nat)), .v (.tup (natsD w)), .v (.tup (natsD z.2)), .un, .un] = (match evB tb (callF tb k) lb_law_walked_1 [.v (syD s), .v (.int (z.1 : Nat)), .v (.tup (natsD w)), .v (.tup (natsD z.2)), .v (.int (h : Nat)), .un] with
      | some (.ct e) => some (.nx e)
      | r => r) := rfl
    refine ⟨((stp s h z.1).1, z.2 ++ if (stp s h z.1).2 = 1 then [h] else []), ?_, ?_, ?_⟩
    · rw [tf]
      have : evB tb (callF tb k) lb_law_walked_1 [.v (syD s), .v (.int (z.1 : Nat)), .v (.tup (natsD w)), .v (.tup (natsD z.2)), .v (.int (h : Nat)), .un] = some (.nx [.v (syD s), .v (.int ((stp s h z.1).1 : Nat)), .v (.tup (natsD w)), .v (.tup (natsD (z.2 ++ if (stp s h z.1).2 = 1 then [h] else []))), .un, .un]) := by
        simp only [stD] at r2
        generalize syD s = SD at *
        generalize natsD w = WD at *
        unfold lb_law_walked_1
        ((first | refine isRt_seq (e := ?_) ?_ ?_ | refine eqB_seq (e := ?_) ?_ ?_ | refine isDr_seq (e := ?_) ?_ ?_ | refine isEx_seq (e := ?_) ?_ ?_ | refine outRt_seq (e := ?_) ?_ ?_); rotate_left; focus (simp [r1, r2] <;> exact rfl))
        by_cases q : (stp s h z.1).2 = 1
        · rw [if_pos q, q, natsD_app]
          have b1 : binD .Add (.tup (natsD z.2)) (.tup [.int (h : Nat)]) = some (.v (.tup (natsD z.2 ++ [.int (h : Nat)]))) := by rw [bn_tup, if_pos (by rw [natsD_len, sizeLine_eq]; show z.2.length + 1 ≤ _; omega)]
          generalize natsD z.2 = ZD at *
          ((first | refine isRt_seq (e := ?_) ?_ ?_ | refine eqB_seq (e := ?_) ?_ ?_ | refine isDr_seq (e := ?_) ?_ ?_ | refine isEx_seq (e := ?_) ?_ ?_ | refine outRt_seq (e := ?_) ?_ ?_); rotate_left; focus (simp [b1, -bn_tup] <;> exact rfl))
          (first | refine isRt_frz rfl ?_ | refine eqB_frz rfl ?_ | refine isDr_frz rfl ?_ | refine isEx_frz rfl ?_ | refine outRt_frz rfl ?_ | refine isRt_clr rfl ?_ | refine eqB_clr rfl ?_ | refine isDr_clr rfl ?_)
          simp
        · have q' : ¬ (((stp s h z.1).2 : Nat) : Int) = 1 := by omega
          rw [if_neg q, List.append_nil]
          have b1 : binD .Add (.tup (natsD z.2)) (.tup []) = some (.v (.tup (natsD z.2))) := by rw [bn_tup, if_pos (by rw [natsD_len, sizeLine_eq]; show z.2.length + 0 ≤ _; omega), List.append_nil]
          generalize natsD z.2 = ZD at *
          ((first | refine isRt_seq (e := ?_) ?_ ?_ | refine eqB_seq (e := ?_) ?_ ?_ | refine isDr_seq (e := ?_) ?_ ?_ | refine isEx_seq (e := ?_) ?_ ?_ | refine outRt_seq (e := ?_) ?_ ?_); rotate_left; focus (simp [b1, q', -bn_tup] <;> exact rfl))
          (first | refine isRt_frz rfl ?_ | refine eqB_frz rfl ?_ | refine isDr_frz rfl ?_ | refine isEx_frz rfl ?_ | refine outRt_frz rfl ?_ | refine isRt_clr rfl ?_ | refine eqB_clr rfl ?_ | refine isDr_clr rfl ?_)
          simp
      rw [this]
    · show (stp s h z.1).1 = _
      rw [en_app, h1]; rfl
    · show z.2 ++ _ = _
      rw [dl_app, dl_one, h2, h1]
  refine run_law_walked (r := .v _) ?_
  have lp : evS tb (callF tb k) lp_law_walked_2 [.v (syD s), .v (.int (x : Nat)), .v (.tup (natsD w)), .v (.tup []), .un, .un] = some (.nx [.v (syD s), .v (.int (z.1 : Nat)), .v (.tup (natsD w)), .v (.tup (natsD z.2)), .un, .un]) := by
    unfold lp_law_walked_2
    rw [loop_u (ds := w.map fun (i : Nat) => D.int i) (e1 := [.v (syD s), .v (.int (x : Nat)), .v (.tup (natsD w)), .v (.tup []), .un, .un]) (by generalize syD s = SD; simp [natsD])]
    exact lp
  rw [← h1, ← h2]
  generalize syD s = SD at *
  generalize natsD w = WD at *
  generalize natsD z.2 = ZD at *
  unfold b_law_walked
  ((first | refine isRt_seq (e := ?_) ?_ ?_ | refine eqB_seq (e := ?_) ?_ ?_ | refine isDr_seq (e := ?_) ?_ ?_ | refine isEx_seq (e := ?_) ?_ ?_ | refine outRt_seq (e := ?_) ?_ ?_); rotate_left; focus (simp [] <;> exact rfl))
  ((first | refine isRt_seq (e := ?_) ?_ ?_ | refine eqB_seq (e := ?_) ?_ ?_ | refine isDr_seq (e := ?_) ?_ ?_ | refine isEx_seq (e := ?_) ?_ ?_ | refine outRt_seq (e := ?_) ?_ ?_); rotate_left; focus (simp [lp] <;> exact rfl))
  simp

theorem law_counts_ok {k : Nat} {s : Sy} (ok : SyOk s) {x : Nat} (hx : x < s.length) {w : List Nat} (hw : ∀ h ∈ w, h ≤ 1) (hl : w.length ≤ 100000) : callV (callF tb (k+2)) f_law_counts [syD s, .int (x : Nat), .tup (natsD w)] = ret (.v (frD (c0 s x w, ca s x w))) := by
  refine run_law_counts (r := .v _) ?_
  have lw := law_walked_ok (k := k) ok hx hw hl
  have hd := dl_len ok w hx
  have h0 := dl_c0 ok w hx
  have cl := ca_le ok w hx
  have lc : (ev tb (callF tb (k+1)) lc_law_counts_1).1 [.v (syD s), .v (.int (x : Nat)), .v (.tup (natsD w)), .v (.tup (natsD (dl s x w))), .un] = some (.ok (.fr (.lst (((dl s x w).filter fun h => decide (h = 0)).map fun (h : Nat) => D.int h))) [.v (syD s), .v (.int (x : Nat)), .v (.tup (natsD w)), .v (.tup (natsD (dl s x w))), .un]) := by
    rw [← fm_if]
    refine lc_of (dl s x w) (fun (h : Nat) => .int h) (fun h => if decide (h = 0) = true then some (D.int h) else none) (e1 := [.v (syD s), .v (.int (x : Nat)), .v (.tup (natsD w)), .v (.tup (natsD (dl s x w))), .un]) (by generalize syD s = SD; generalize natsD w = WD; simp [natsD]) (by omega) fun h _ => ?_
    generalize syD s = SD
    generalize natsD w = WD
    by_cases q : h = 0
    · simp [q]
    · simp [q]
  have ll : ((((dl s x w).filter fun h => decide (h = 0)).map fun (h : Nat) => D.int h)).length = c0 s x w := by rw [List.length_map, h0]
  have ll2 : (natsD (dl s x w)).length = ca s x w := by rw [natsD_len, hd]
  generalize ((dl s x w).filter fun h => decide (h = 0)).map (fun (h : Nat) => D.int h) = FL at *
  generalize natsD (dl s x w) = DL at *
  generalize natsD w = WD at *
  generalize syD s = SD at *
  unfold b_law_counts
  ((first | refine isRt_seq (e := ?_) ?_ ?_ | refine eqB_seq (e := ?_) ?_ ?_ | refine isDr_seq (e := ?_) ?_ ?_ | refine isEx_seq (e := ?_) ?_ ?_ | refine outRt_seq (e := ?_) ?_ ?_); rotate_left; focus (simp [lw] <;> exact rfl))
  simp [lc, ll, ll2, frD]
abbrev shE (s : Sy) (x : Nat) (g : List Nat) (S : Sl) (r : List Sl) : Env := .v (syD s) :: .v (.int (x : Nat)) :: .v (.lst (natsD g)) :: S :: r
def lowD (p : Nat × Nat) : D := frD (low p.1 p.2)
theorem share_lp1 {k : Nat} {s : Sy} (ok : SyOk s) {x : Nat} {g : List Nat} (hg : ∀ y, y ∈ g ↔ Rch s x y) : ∃ S : List (Nat × Nat), (∀ p, p ∈ S ↔ Shr s x p) ∧ S.length ≤ 1000 ∧
    evS tb (callF tb (k+3)) lp_share_range_2 (shE s x g (.ow false (.lst [])) [.un, .un, .un, .un, .un, .un, .un]) = some (.nx (shE s x g (.ow false (.lst (S.map lowD))) [.un, .un, .un, .un, .un, .un, .un])) := by
  have fr := found_rounds_ok (k := k+1) ok
  have lG : (srtP (rdsL s)).length ≤ 768 := by
    rw [(srtP_perm _).length_eq]
    have := rdsL_len ok
    omega
  obtain ⟨S, lp, h1, h2⟩ := for_pre (as := fun d => asgT (.tp (.cons (.nm 4) (.cons (.nm 5) .nil))) (.v d)) (body := evB tb (callF tb (k+3)) lb_share_range_1) nwD (fun S : List (Nat × Nat) => shE s x g (.ow false (.lst (S.map lowD))) [.un, .un, .un, .un, .un, .un, .un]) (fun pre S => (∀ p, p ∈ S ↔ 0 < p.2 ∧ ∃ z ∈ pre, Rch s x z.1 ∧ p = (c0 s z.1 z.2, ca s z.1 z.2)) ∧ S.length ≤ pre.length) (srtP (rdsL s)) [] ⟨fun p => by simp, by simp⟩ fun pre z post S e ⟨h1, h2⟩ => by
    have hz : z ∈ rdsL s := srtP_mem.mp (by rw [e]; simp)
    obtain ⟨z1, z2, z3, z4⟩ := rdsL_ok ok z hz
    have hpl : pre.length ≤ 768 := by
      have := congrArg List.length e
      simp at this
      omega
    have h6 := ok.most
    obtain ⟨c1, e1, di⟩ := deeds_in_ok (k := k+2) ok z1 z4
    have cl := ca_le ok z.2 z1
    have gin := in_natsL z.1 g
    have tf : turnF (fun d => asgT (.tp (.cons (.nm 4) (.cons (.nm 5) .nil))) (.v d)) (evB tb (callF tb (k+3)) lb_share_range_1) (nwD z) (shE s x g (.ow false (.lst (S.map lowD))) [.un, .un, .un, .un, .un, .un, .un]) = (match evB tb (callF tb (k+3)) lb_share_range_1 (shE s x g (.ow false (.lst (S.map lowD))) [.v (.int (z.1 : Nat)), .v (.tup (natsD z.2)), .un, .un, .un, .un, .un]) with
      | some (.ct e) => some (.nx e)
      | r => r) := by
      have en : nwD z = .tup [.int (z.1 : Nat), .tup (natsD z.2)] := rfl
      rw [en]
      generalize evB tb (callF tb (k+3)) lb_share_range_1 = BB
      simp only [shE]
      generalize S.map lowD = SS
      generalize natsD g = GD
      generalize natsD z.2 = WD
      simp <;> rfl
    have sL : (S.map lowD).length < 16777216 := by rw [List.length_map]; omega
    have e2 : ((c0 s z.1 z.2 : Nat) : Int) + (c1 : Nat) = ((ca s z.1 z.2 : Nat) : Int) := by omega
    by_cases q : z.1 ∈ g ∧ 0 < ca s z.1 z.2
    · obtain ⟨q1, q2⟩ := q
      rw [decide_eq_true q1] at gin
      have lo := lowest_ok (k := k) (c0_le s z.2 z.1) q2 (by omega)
      have q2' : (0 : Int) < ((ca s z.1 z.2 : Nat) : Int) := by omega
      refine ⟨S ++ [(c0 s z.1 z.2, ca s z.1 z.2)], ?_, fun p => ?_, by simp; omega⟩
      · rw [tf]
        have : evB tb (callF tb (k+3)) lb_share_range_1 (shE s x g (.ow false (.lst (S.map lowD))) [.v (.int (z.1 : Nat)), .v (.tup (natsD z.2)), .un, .un, .un, .un, .un]) = some (.nx (shE s x g (.ow false (.lst ((S ++ [(c0 s z.1 z.2, ca s z.1 z.2)]).map lowD))) [.un, .un, .un, .un, .un, .un, .un])) := by
          rw [List.map_append, List.map_singleton]
          simp only [shE, lowD] at *
          generalize S.map lowD = SS at *
          generalize natsD g = GD at *
          generalize natsD z.2 = WD at *
          generalize syD s = SD at *
          generalize frD (low (c0 s z.1 z.2) (ca s z.1 z.2)) = FR at *
          unfold lb_share_range_1
          ((first | refine isRt_seq (e := ?_) ?_ ?_ | refine eqB_seq (e := ?_) ?_ ?_ | refine isDr_seq (e := ?_) ?_ ?_ | refine isEx_seq (e := ?_) ?_ ?_ | refine outRt_seq (e := ?_) ?_ ?_); rotate_left; focus (simp [di] <;> exact rfl))
          ((first | refine isRt_seq (e := ?_) ?_ ?_ | refine eqB_seq (e := ?_) ?_ ?_ | refine isDr_seq (e := ?_) ?_ ?_ | refine isEx_seq (e := ?_) ?_ ?_ | refine outRt_seq (e := ?_) ?_ ?_); rotate_left; focus (simp [gin, e2, q2, q2', lo, sL] <;> exact rfl))
          (first | refine isRt_frz rfl ?_ | refine eqB_frz rfl ?_ | refine isDr_frz rfl ?_ | refine isEx_frz rfl ?_ | refine outRt_frz rfl ?_ | refine isRt_clr rfl ?_ | refine eqB_clr rfl ?_ | refine isDr_clr rfl ?_)
          rfl
        rw [this]
      · rw [List.mem_append, List.mem_singleton, h1]
        constructor
        · rintro (⟨a, z', hz', b⟩ | rfl)
          · exact ⟨a, z', List.mem_append_left _ hz', b⟩
          · exact ⟨q2, z, by simp, (hg _).mp q1, rfl⟩
        · rintro ⟨a, z', hz', b, c⟩
          rcases List.mem_append.mp hz' with hz' | hz'
          · exact .inl ⟨a, z', hz', b, c⟩
          · rw [List.mem_singleton.mp hz'] at c
            exact .inr c
    · refine ⟨S, ?_, fun p => ?_, by simp; omega⟩
      · rw [tf]
        have : evB tb (callF tb (k+3)) lb_share_range_1 (shE s x g (.ow false (.lst (S.map lowD))) [.v (.int (z.1 : Nat)), .v (.tup (natsD z.2)), .un, .un, .un, .un, .un]) = some (.nx (shE s x g (.ow false (.lst (S.map lowD))) [.un, .un, .un, .un, .un, .un, .un])) := by
          simp only [shE]
          generalize S.map lowD = SS at *
          generalize natsD g = GD at *
          generalize natsD z.2 = WD at *
          generalize syD s = SD at *
          unfold lb_share_range_1
          ((first | refine isRt_seq (e := ?_) ?_ ?_ | refine eqB_seq (e := ?_) ?_ ?_ | refine isDr_seq (e := ?_) ?_ ?_ | refine isEx_seq (e := ?_) ?_ ?_ | refine outRt_seq (e := ?_) ?_ ?_); rotate_left; focus (simp [di] <;> exact rfl))
          by_cases q1 : z.1 ∈ g
          · rw [decide_eq_true q1] at gin
            have q2 : ¬ 0 < ca s z.1 z.2 := fun h => q ⟨q1, h⟩
            have q2' : ¬ (0 : Int) < ((ca s z.1 z.2 : Nat) : Int) := by omega
            ((first | refine isRt_seq (e := ?_) ?_ ?_ | refine eqB_seq (e := ?_) ?_ ?_ | refine isDr_seq (e := ?_) ?_ ?_ | refine isEx_seq (e := ?_) ?_ ?_ | refine outRt_seq (e := ?_) ?_ ?_); rotate_left; focus (simp [gin, e2, q2, q2'] <;> exact rfl))
            (first | refine isRt_frz rfl ?_ | refine eqB_frz rfl ?_ | refine isDr_frz rfl ?_ | refine isEx_frz rfl ?_ | refine outRt_frz rfl ?_ | refine isRt_clr rfl ?_ | refine eqB_clr rfl ?_ | refine isDr_clr rfl ?_)
            rfl
          · rw [decide_eq_false q1] at gin
            ((first | refine isRt_seq (e := ?_) ?_ ?_ | refine eqB_seq (e := ?_) ?_ ?_ | refine isDr_seq (e := ?_) ?_ ?_ | refine isEx_seq (e := ?_) ?_ ?_ | refine outRt_seq (e := ?_) ?_ ?_); rotate_left; focus (simp [gin] <;> exact rfl))
            (first | refine isRt_frz rfl ?_ | refine eqB_frz rfl ?_ | refine isDr_frz rfl ?_ | refine isEx_frz rfl ?_ | refine outRt_frz rfl ?_ | refine isRt_clr rfl ?_ | refine eqB_clr rfl ?_ | refine isDr_clr rfl ?_)
            rfl
        rw [this]
      · rw [h1]
        constructor
        · rintro ⟨a, z', hz', b⟩
          exact ⟨a, z', List.mem_append_left _ hz', b⟩
        · rintro ⟨a, z', hz', b, c⟩
          rcases List.mem_append.mp hz' with hz' | hz'
          · exact ⟨a, z', hz', b, c⟩
          · rw [List.mem_singleton.mp hz'] at b c
            rw [c] at a
            exact absurd ⟨(hg _).mpr b, a⟩ q
  refine ⟨S, fun p => ?_, by omega, ?_⟩
  · rw [h1]
    unfold Shr
    simp only [srtP_mem]
  · unfold lp_share_range_2
    rw [loop_u (ds := (srtP (rdsL s)).map nwD) (e1 := shE s x g (.ow false (.lst [])) [.un, .un, .un, .un, .un, .un, .un])]
    · exact lp
    · simp only [shE]
      generalize (srtP (rdsL s)).map nwD = RD at *
      generalize natsD g = GD at *
      generalize syD s = SD at *
      simp [fr]
theorem share_lp2 {cf : Nat} {s : Sy} {x : Nat} {g : List Nat} {S : List (Nat × Nat)} (hS : ∀ p ∈ S, p.1 ≤ p.2 ∧ 0 < p.2 ∧ p.2 ≤ 6) {z : (Nat × Nat) × (Nat × Nat)} (hz : z.1.1 ≤ 6 ∧ z.1.2 ≤ 6 ∧ z.2.1 ≤ 6 ∧ z.2.2 ≤ 6) :
    evS tb (callF tb (cf+1)) lp_share_range_4 (shE s x g (.ow false (.lst (S.map lowD))) [.un, .un, .un, .un, .v (frD z.1), .v (frD z.2), .un]) = some (.nx (shE s x g (.v (.lst (S.map lowD))) [.un, .un, .un, .un, .v (frD ((S.map fun p => low p.1 p.2).foldl fstep z).1), .v (frD ((S.map fun p => low p.1 p.2).foldl fstep z).2), .un])) := by
  have lp := for_fold (as := fun d => asgT (.nm 10) (.v d)) (body := evB tb (callF tb (cf+1)) lb_share_range_3) frD (fun z : (Nat × Nat) × (Nat × Nat) => shE s x g (.v (.lst (S.map lowD))) [.un, .un, .un, .un, .v (frD z.1), .v (frD z.2), .un]) fstep (fun _ z => z.1.1 ≤ 6 ∧ z.1.2 ≤ 6 ∧ z.2.1 ≤ 6 ∧ z.2.2 ≤ 6) (S.map fun p => low p.1 p.2) z hz fun i z p hp _ hz => by
    obtain ⟨q, hq, rfl⟩ := List.mem_map.mp hp
    obtain ⟨a, b, c⟩ := hS q hq
    obtain ⟨l1, l2⟩ := low_le a b c
    have b1 := below_ok (k := cf) (p := low q.1 q.2) (q := z.1) (by omega) (by omega) (by omega) (by omega)
    have b2 := below_ok (k := cf) (p := z.2) (q := low q.1 q.2) (by omega) (by omega) (by omega) (by omega)
    refine ⟨?_, ?_⟩
    · unfold fstep
      simp only
      refine ⟨?_, ?_, ?_, ?_⟩ <;> (split <;> omega)
    · have tf : turnF (fun d => asgT (.nm 10) (.v d)) (evB tb (callF tb (cf+1)) lb_share_range_3) (frD (low q.1 q.2)) (shE s x g (.v (.lst (S.map lowD))) [.un, .un, .un, .un, .v (frD z.1), .v (frD z.2), .un]) = (match evB tb (callF tb (cf+1)) lb_share_range_3 (shE s x g (.v (.lst (S.map lowD))) [.un, .un, .un, .un, .v (frD z.1), .v (frD z.2), .v (frD (low q.1 q.2))]) with
        | some (.ct e) => some (.nx e)
        | r => r) := rfl
      rw [tf]
      have : evB tb (callF tb (cf+1)) lb_share_range_3 (shE s x g (.v (.lst (S.map lowD))) [.un, .un, .un, .un, .v (frD z.1), .v (frD z.2), .v (frD (low q.1 q.2))]) = some (.nx (shE s x g (.v (.lst (S.map lowD))) [.un, .un, .un, .un, .v (frD (fstep z (low q.1 q.2)).1), .v (frD (fstep z (low q.1 q.2)).2), .un])) := by
        unfold fstep
        simp only [shE]
        generalize low q.1 q.2 = r at *
        generalize S.map lowD = SS at *
        generalize natsD g = GD at *
        generalize syD s = SD at *
        unfold lb_share_range_3
        cases v1 : bel r z.1 with
        | true =>
          rw [v1] at b1
          ((first | refine isRt_seq (e := ?_) ?_ ?_ | refine eqB_seq (e := ?_) ?_ ?_ | refine isDr_seq (e := ?_) ?_ ?_ | refine isEx_seq (e := ?_) ?_ ?_ | refine outRt_seq (e := ?_) ?_ ?_); rotate_left; focus (simp [b1] <;> exact rfl))
          cases v2 : bel z.2 r with
          | true =>
            rw [v2] at b2
            ((first | refine isRt_seq (e := ?_) ?_ ?_ | refine eqB_seq (e := ?_) ?_ ?_ | refine isDr_seq (e := ?_) ?_ ?_ | refine isEx_seq (e := ?_) ?_ ?_ | refine outRt_seq (e := ?_) ?_ ?_); rotate_left; focus (simp [b2] <;> exact rfl))
            (first | refine isRt_frz rfl ?_ | refine eqB_frz rfl ?_ | refine isDr_frz rfl ?_ | refine isEx_frz rfl ?_ | refine outRt_frz rfl ?_ | refine isRt_clr rfl ?_ | refine eqB_clr rfl ?_ | refine isDr_clr rfl ?_)
            simp
          | false =>
            rw [v2] at b2
            ((first | refine isRt_seq (e := ?_) ?_ ?_ | refine eqB_seq (e := ?_) ?_ ?_ | refine isDr_seq (e := ?_) ?_ ?_ | refine isEx_seq (e := ?_) ?_ ?_ | refine outRt_seq (e := ?_) ?_ ?_); rotate_left; focus (simp [b2] <;> exact rfl))
            (first | refine isRt_frz rfl ?_ | refine eqB_frz rfl ?_ | refine isDr_frz rfl ?_ | refine isEx_frz rfl ?_ | refine outRt_frz rfl ?_ | refine isRt_clr rfl ?_ | refine eqB_clr rfl ?_ | refine isDr_clr rfl ?_)
            simp
        | false =>
          rw [v1] at b1
          ((first | refine isRt_seq (e := ?_) ?_ ?_ | refine eqB_seq (e := ?_) ?_ ?_ | refine isDr_seq (e := ?_) ?_ ?_ | refine isEx_seq (e := ?_) ?_ ?_ | refine outRt_seq (e := ?_) ?_ ?_); rotate_left; focus (simp [b1] <;> exact rfl))
          cases v2 : bel z.2 r with
          | true =>
            rw [v2] at b2
            ((first | refine isRt_seq (e := ?_) ?_ ?_ | refine eqB_seq (e := ?_) ?_ ?_ | refine isDr_seq (e := ?_) ?_ ?_ | refine isEx_seq (e := ?_) ?_ ?_ | refine outRt_seq (e := ?_) ?_ ?_); rotate_left; focus (simp [b2] <;> exact rfl))
            (first | refine isRt_frz rfl ?_ | refine eqB_frz rfl ?_ | refine isDr_frz rfl ?_ | refine isEx_frz rfl ?_ | refine outRt_frz rfl ?_ | refine isRt_clr rfl ?_ | refine eqB_clr rfl ?_ | refine isDr_clr rfl ?_)
            simp
          | false =>
            rw [v2] at b2
            ((first | refine isRt_seq (e := ?_) ?_ ?_ | refine eqB_seq (e := ?_) ?_ ?_ | refine isDr_seq (e := ?_) ?_ ?_ | refine isEx_seq (e := ?_) ?_ ?_ | refine outRt_seq (e := ?_) ?_ ?_); rotate_left; focus (simp [b2] <;> exact rfl))
            (first | refine isRt_frz rfl ?_ | refine eqB_frz rfl ?_ | refine isDr_frz rfl ?_ | refine isEx_frz rfl ?_ | refine outRt_frz rfl ?_ | refine isRt_clr rfl ?_ | refine eqB_clr rfl ?_ | refine isDr_clr rfl ?_)
            simp
      rw [this]
  have lp := lp.1
  rw [List.map_map] at lp
  unfold lp_share_range_4
  rw [loop_u (ds := S.map lowD) (e1 := shE s x g (.v (.lst (S.map lowD))) [.un, .un, .un, .un, .v (frD z.1), .v (frD z.2), .un])]
  · exact lp
  · simp only [shE]
    generalize S.map lowD = SS at *
    generalize natsD g = GD at *
    generalize syD s = SD at *
    simp
def shD : Option ((Nat × Nat) × (Nat × Nat)) → D
  | none => .non
  | some (a, b) => .tup [frD a, frD b]
theorem share_range_ok {k : Nat} {s : Sy} (ok : SyOk s) {x : Nat} (hx : x < s.length) : ∃ o, ShOk s x o ∧ callV (callF tb (k+6)) f_share_range [syD s, .int (x : Nat)] = ret (.v (shD o)) := by
  have c1 : callV (callF tb (k+5)) f_check_system [syD s] = _ := check_system_ok (k := k+1) ok
  have c2 : callV (callF tb (k+5)) f_check_state [syD s, .int (x : Nat)] = _ := check_state_ok (k := k+2) hx
  obtain ⟨g, _, hg, rc⟩ := reached_ok (k := k+4) ok hx
  obtain ⟨S, hS, hl, l1⟩ := share_lp1 (k := k+2) ok hg
  simp only [shE] at l1
  cases S with
  | nil =>
    refine ⟨none, ⟨⟨fun _ p hp => (nomatch (hS p).mpr hp), fun _ => rfl⟩, fun _ _ h => (nomatch h), fun _ _ h => (nomatch h), fun _ _ h => (nomatch h)⟩, run_share_range (r := .v _) ?_⟩
    simp only [List.map_nil] at l1
    generalize natsD g = GD at *
    generalize syD s = SD at *
    unfold b_share_range
    ((first | refine isRt_seq (e := ?_) ?_ ?_ | refine eqB_seq (e := ?_) ?_ ?_ | refine isDr_seq (e := ?_) ?_ ?_ | refine isEx_seq (e := ?_) ?_ ?_ | refine outRt_seq (e := ?_) ?_ ?_); rotate_left; focus (simp [c1] <;> exact rfl))
    ((first | refine isRt_seq (e := ?_) ?_ ?_ | refine eqB_seq (e := ?_) ?_ ?_ | refine isDr_seq (e := ?_) ?_ ?_ | refine isEx_seq (e := ?_) ?_ ?_ | refine outRt_seq (e := ?_) ?_ ?_); rotate_left; focus (simp [c2] <;> exact rfl))
    ((first | refine isRt_seq (e := ?_) ?_ ?_ | refine eqB_seq (e := ?_) ?_ ?_ | refine isDr_seq (e := ?_) ?_ ?_ | refine isEx_seq (e := ?_) ?_ ?_ | refine outRt_seq (e := ?_) ?_ ?_); rotate_left; focus (simp [rc] <;> exact rfl))
    (first | refine isRt_frz rfl ?_ | refine eqB_frz rfl ?_ | refine isDr_frz rfl ?_ | refine isEx_frz rfl ?_ | refine outRt_frz rfl ?_ | refine isRt_clr rfl ?_ | refine eqB_clr rfl ?_ | refine isDr_clr rfl ?_)
    ((first | refine isRt_seq (e := ?_) ?_ ?_ | refine eqB_seq (e := ?_) ?_ ?_ | refine isDr_seq (e := ?_) ?_ ?_ | refine isEx_seq (e := ?_) ?_ ?_ | refine outRt_seq (e := ?_) ?_ ?_); rotate_left; focus (simp [] <;> exact rfl))
    ((first | refine isRt_seq (e := ?_) ?_ ?_ | refine eqB_seq (e := ?_) ?_ ?_ | refine isDr_seq (e := ?_) ?_ ?_ | refine isEx_seq (e := ?_) ?_ ?_ | refine outRt_seq (e := ?_) ?_ ?_); rotate_left; focus (simp [l1] <;> exact rfl))
    simp [shD]
  | cons p0 S0 =>
    generalize hSS : p0 :: S0 = S at *
    have pos : ∀ p ∈ S, p.1 ≤ p.2 ∧ 0 < p.2 ∧ p.2 ≤ 6 := fun p hp => by
      have := (hS p).mp hp
      exact ⟨(this.le ok).1, this.1, (this.le ok).2⟩
    have m0 : p0 ∈ S := by rw [← hSS]; simp
    obtain ⟨a0, b0, d0⟩ := pos p0 m0
    obtain ⟨lw1, lw2⟩ := low_le a0 b0 d0
    have l2 := share_lp2 (cf := k+4) (s := s) (x := x) (g := g) pos (z := (low p0.1 p0.2, low p0.1 p0.2)) ⟨lw1, lw2, lw1, lw2⟩
    obtain ⟨f1, f2, f3, f4, f5⟩ := fold_lm (S.map fun p => low p.1 p.2) (low p0.1 p0.2, low p0.1 p0.2) (fun q hq => by
      obtain ⟨p, hp, rfl⟩ := List.mem_map.mp hq
      exact low_pos (pos p hp).2.1) (low_pos b0) (low_pos b0)
    have mm : low p0.1 p0.2 ∈ S.map fun p => low p.1 p.2 := List.mem_map.mpr ⟨p0, m0, rfl⟩
    obtain ⟨R, hR⟩ : ∃ R, R = (S.map fun p => low p.1 p.2).foldl fstep (low p0.1 p0.2, low p0.1 p0.2) := ⟨_, rfl⟩
    rw [← hR] at f1 f2 f3 f4 f5 l2
    have g1 : R.1 ∈ S.map fun p => low p.1 p.2 := by
      rcases f1 with f1 | f1
      · rw [f1]; exact mm
      · exact f1
    have g2 : R.2 ∈ S.map fun p => low p.1 p.2 := by
      rcases f2 with f1 | f1
      · rw [f1]; exact mm
      · exact f1
    refine ⟨some R, ⟨⟨fun h => (nomatch h), fun h => absurd ((hS p0).mp m0) (h p0)⟩, fun a b h => ?_, fun a b h => ?_, fun a b h p hp => ?_⟩, run_share_range (r := .v _) ?_⟩
    · cases h
      obtain ⟨p, hp, e⟩ := List.mem_map.mp g1
      exact ⟨p, (hS p).mp hp, e.symm⟩
    · cases h
      obtain ⟨p, hp, e⟩ := List.mem_map.mp g2
      exact ⟨p, (hS p).mp hp, e.symm⟩
    · cases h
      obtain ⟨q1, q2⟩ := f5 _ (List.mem_map.mpr ⟨p, (hS p).mpr hp, rfl⟩)
      obtain ⟨gg, g0, ge1, ge2⟩ := low_eq (f := p.1) hp.1
      simp only at q1 q2
      constructor
      · rw [ge2]
        conv => rhs; rw [ge1]
        rw [← Nat.mul_assoc, Nat.mul_right_comm (low p.1 p.2).1 gg a.2]
        exact Nat.mul_le_mul_right gg q1
      · rw [ge1]
        conv => rhs; rw [ge2]
        rw [← Nat.mul_assoc, Nat.mul_right_comm (low p.1 p.2).1 gg b.2]
        exact Nat.mul_le_mul_right gg q2
    · simp only [shE] at l2
      have sl : (S.map lowD).length = S.length := List.length_map _
      have s0 : S.length ≠ 0 := by rw [← hSS]; simp
      have s0' : ¬ ((S.length : Nat) : Int) = 0 := by omega
      have i0 : ixD (.lst (S.map lowD)) (.int 0) = some (frD (low p0.1 p0.2)) := by rw [← hSS]; exact ixL0 _ _
      have eR : shD (some R) = .tup [frD R.1, frD R.2] := rfl
      rw [eR]
      generalize frD R.1 = R1 at *
      generalize frD R.2 = R2 at *
      generalize frD (low p0.1 p0.2) = P0 at *
      generalize S.map lowD = SS at *
      generalize natsD g = GD at *
      generalize syD s = SD at *
      unfold b_share_range
      ((first | refine isRt_seq (e := ?_) ?_ ?_ | refine eqB_seq (e := ?_) ?_ ?_ | refine isDr_seq (e := ?_) ?_ ?_ | refine isEx_seq (e := ?_) ?_ ?_ | refine outRt_seq (e := ?_) ?_ ?_); rotate_left; focus (simp [c1] <;> exact rfl))
      ((first | refine isRt_seq (e := ?_) ?_ ?_ | refine eqB_seq (e := ?_) ?_ ?_ | refine isDr_seq (e := ?_) ?_ ?_ | refine isEx_seq (e := ?_) ?_ ?_ | refine outRt_seq (e := ?_) ?_ ?_); rotate_left; focus (simp [c2] <;> exact rfl))
      ((first | refine isRt_seq (e := ?_) ?_ ?_ | refine eqB_seq (e := ?_) ?_ ?_ | refine isDr_seq (e := ?_) ?_ ?_ | refine isEx_seq (e := ?_) ?_ ?_ | refine outRt_seq (e := ?_) ?_ ?_); rotate_left; focus (simp [rc] <;> exact rfl))
      (first | refine isRt_frz rfl ?_ | refine eqB_frz rfl ?_ | refine isDr_frz rfl ?_ | refine isEx_frz rfl ?_ | refine outRt_frz rfl ?_ | refine isRt_clr rfl ?_ | refine eqB_clr rfl ?_ | refine isDr_clr rfl ?_)
      ((first | refine isRt_seq (e := ?_) ?_ ?_ | refine eqB_seq (e := ?_) ?_ ?_ | refine isDr_seq (e := ?_) ?_ ?_ | refine isEx_seq (e := ?_) ?_ ?_ | refine outRt_seq (e := ?_) ?_ ?_); rotate_left; focus (simp [] <;> exact rfl))
      ((first | refine isRt_seq (e := ?_) ?_ ?_ | refine eqB_seq (e := ?_) ?_ ?_ | refine isDr_seq (e := ?_) ?_ ?_ | refine isEx_seq (e := ?_) ?_ ?_ | refine outRt_seq (e := ?_) ?_ ?_); rotate_left; focus (simp [l1] <;> exact rfl))
      ((first | refine isRt_seq (e := ?_) ?_ ?_ | refine eqB_seq (e := ?_) ?_ ?_ | refine isDr_seq (e := ?_) ?_ ?_ | refine isEx_seq (e := ?_) ?_ ?_ | refine outRt_seq (e := ?_) ?_ ?_); rotate_left; focus (simp [sl, s0, s0'] <;> exact rfl))
      ((first | refine isRt_seq (e := ?_) ?_ ?_ | refine eqB_seq (e := ?_) ?_ ?_ | refine isDr_seq (e := ?_) ?_ ?_ | refine isEx_seq (e := ?_) ?_ ?_ | refine outRt_seq (e := ?_) ?_ ?_); rotate_left; focus (simp [i0] <;> exact rfl))
      ((first | refine isRt_seq (e := ?_) ?_ ?_ | refine eqB_seq (e := ?_) ?_ ?_ | refine isDr_seq (e := ?_) ?_ ?_ | refine isEx_seq (e := ?_) ?_ ?_ | refine outRt_seq (e := ?_) ?_ ?_); rotate_left; focus (simp [l2] <;> exact rfl))
      simp

end Ev.k71

set_option Elab.async false
set_option linter.all false
set_option maxRecDepth 100000
set_option maxHeartbeats 4000000
namespace Ev.k71
open PySem Ev
/-! the law's turns -/
abbrev EL (ns : List Int) (dr : DrT) (l : List Sl) : Env := .v (.scr (ns.map D.int)) :: .ow false dr.o :: l
/-- slots: 2 turn, 3 system, 4 state, 5 rows, 6 start, 7 reach, 8 shares, 9 told, 10 least, 11 most, 12 again, 13 walk, 14 path, 15 hand, 16 i, 17 first, 18 whole, 19 odd, 20 bad -/
theorem rows_lp {ns : List Int} {dr : DrT} {s : Sy} (ok : SyOk s) {e2 e4 e7 e8 e9 e10 e11 e12 e13 e14 e15 e16 e17 e18 e19 e20 : Sl} :
    evS tb (callF tb 11) lp_law_2 (EL ns dr [e2, .v (syD s), e4, .v (.lst []), .un, e7, e8, e9, e10, e11, e12, e13, e14, e15, e16, e17, e18, e19, e20]) = some (.nx (EL ns dr [e2, .v (syD s), e4, .v (.lst ((rdsL s).map nwD)), .un, e7, e8, e9, e10, e11, e12, e13, e14, e15, e16, e17, e18, e19, e20])) := by
  have h6 := ok.most
  have r := rng1M_n (n := s.length) (by omega)
  obtain ⟨G, lp, hG⟩ := for_pre (as := fun d => asgT (.nm 6) (.v d)) (body := evB tb (callF tb 11) lb_law_1) (fun (i : Nat) => D.int i) (fun G : List NW => EL ns dr [e2, .v (syD s), e4, .v (.lst (G.map nwD)), .un, e7, e8, e9, e10, e11, e12, e13, e14, e15, e16, e17, e18, e19, e20]) (fun pre G => G = pre.flatMap fun st => (lr s st s.length (st, [], [st])).map fun w => (st, w)) (List.range s.length) [] rfl fun pre st post G e hG => by
    have hst : st < s.length := by
      have : st ∈ List.range s.length := by rw [e]; simp
      exact List.mem_range.mp this
    have hpl : pre.length ≤ 6 := by
      have := congrArg List.length e
      simp at this
      omega
    obtain ⟨k, hk⟩ : ∃ k, k + s.length = 11 := ⟨11 - s.length, by omega⟩
    have lw := law_rounds_ok ok (st := st) s.length k 0 (st, [], [st]) (z0_ok hst) (by omega) (by omega)
    rw [hk] at lw
    have lw : callV (callF tb 11) f_law_rounds [syD s, .int (st : Nat), .int (st : Nat), .tup [], .lst [.int (st : Nat)]] = ret (.fr (.lst ((lr s st s.length (st, [], [st])).map (pD st)))) := lw
    have l1 : (lr s st s.length (st, [], [st])).length ≤ 128 := by
      have h2 := lr_len s st s.length (st, [], [st])
      have h3 : 2 ^ (s.length + 1) ≤ 2 ^ 7 := Nat.pow_le_pow_right (by omega) (by omega)
      omega
    have lG : G.length ≤ 768 := by
      rw [hG]
      have := fl_len (fun st => (lr s st s.length (st, [], [st])).map fun w => (st, w)) 128 pre fun st _ => by
        rw [List.length_map]
        have := lr_len s st s.length (st, [], [st])
        have h2 : 2 ^ (s.length + 1) ≤ 2 ^ 7 := Nat.pow_le_pow_right (by omega) (by omega)
        omega
      have := Nat.mul_le_mul_right 128 hpl
      omega
    refine ⟨G ++ (lr s st s.length (st, [], [st])).map fun w => (st, w), ?_, by rw [List.flatMap_append, List.flatMap_singleton, hG]⟩
    have tf : turnF (fun d => asgT (.nm 6) (.v d)) (evB tb (callF tb 11) lb_law_1) (.int (st : Nat)) (EL ns dr [e2, .v (syD s), e4, .v (.lst (G.map nwD)), .un, e7, e8, e9, e10, e11, e12, e13, e14, e15, e16, e17, e18, e19, e20]) = (match evB tb (callF tb 11) lb_law_1 (EL ns dr [e2, .v (syD s), e4, .v (.lst (G.map nwD)), .v (.int (st : Nat)), e7, e8, e9, e10, e11, e12, e13, e14, e15, e16, e17, e18, e19, e20]) with
      | some (.ct e) => some (.nx e)
      | r => r) := rfl
    rw [tf]
    have em : (G ++ (lr s st s.length (st, [], [st])).map fun w => (st, w)).map nwD = G.map nwD ++ (lr s st s.length (st, [], [st])).map (pD st) := by rw [List.map_append, List.map_map]; rfl
    have ad : binD .Add (.lst (G.map nwD)) (.lst ((lr s st s.length (st, [], [st])).map (pD st))) = some (.fr (.lst (G.map nwD ++ (lr s st s.length (st, [], [st])).map (pD st)))) := by
      rw [bn_lst, if_pos (by rw [List.length_map, List.length_map, sizeLine_eq]; omega)]
    rw [em]
    generalize G.map nwD = GD at *
    generalize (lr s st s.length (st, [], [st])).map (pD st) = RD at *
    generalize syD s = SD at *
    have : evB tb (callF tb 11) lb_law_1 (EL ns dr [e2, .v SD, e4, .v (.lst GD), .v (.int (st : Nat)), e7, e8, e9, e10, e11, e12, e13, e14, e15, e16, e17, e18, e19, e20]) = some (.nx (EL ns dr [e2, .v SD, e4, .v (.lst (GD ++ RD)), .un, e7, e8, e9, e10, e11, e12, e13, e14, e15, e16, e17, e18, e19, e20])) := by
      unfold lb_law_1
      ((first | refine isRt_seq (e := ?_) ?_ ?_ | refine eqB_seq (e := ?_) ?_ ?_ | refine isDr_seq (e := ?_) ?_ ?_ | refine isEx_seq (e := ?_) ?_ ?_ | refine outRt_seq (e := ?_) ?_ ?_); rotate_left; focus (simp [lw, ad, -bn_lst] <;> exact rfl))
      (first | refine isRt_frz rfl ?_ | refine eqB_frz rfl ?_ | refine isDr_frz rfl ?_ | refine isEx_frz rfl ?_ | refine outRt_frz rfl ?_ | refine isRt_clr rfl ?_ | refine eqB_clr rfl ?_ | refine isDr_clr rfl ?_)
      (first | refine isRt_frz rfl ?_ | refine eqB_frz rfl ?_ | refine isDr_frz rfl ?_ | refine isEx_frz rfl ?_ | refine outRt_frz rfl ?_ | refine isRt_clr rfl ?_ | refine eqB_clr rfl ?_ | refine isDr_clr rfl ?_)
      rfl
    rw [this]
  subst hG
  unfold lp_law_2
  rw [loop_u (ds := (List.range s.length).map fun (i : Nat) => D.int i) (e1 := EL ns dr [e2, .v (syD s), e4, .v (.lst []), .un, e7, e8, e9, e10, e11, e12, e13, e14, e15, e16, e17, e18, e19, e20]) (by simp [r])]
  exact lp
def shA (s : Sy) (l : List Nat) : List (Nat × Nat) := ((rdsL s).filter fun z => decide (z.1 ∈ l)).map fun z => (c0 s z.1 z.2, ca s z.1 z.2)
def shB (s : Sy) (l : List Nat) : List (Nat × Nat) := (shA s l).filter fun p => decide (0 < p.2)
theorem shB_mem {s : Sy} {l : List Nat} {x : Nat} (hl : ∀ y, y ∈ l ↔ Rch s x y) {p : Nat × Nat} : p ∈ shB s l ↔ Shr s x p := by
  unfold shB shA Shr
  rw [List.mem_filter, List.mem_map]
  constructor
  · rintro ⟨⟨z, hz, rfl⟩, h⟩
    rw [List.mem_filter] at hz
    exact ⟨of_decide_eq_true h, z, hz.1, (hl _).mp (of_decide_eq_true hz.2), rfl⟩
  · rintro ⟨h, z, hz, r, rfl⟩
    exact ⟨⟨z, List.mem_filter.mpr ⟨hz, decide_eq_true ((hl _).mpr r)⟩, rfl⟩, decide_eq_true h⟩
theorem shB_len {s : Sy} (ok : SyOk s) (l : List Nat) : (shA s l).length ≤ 768 ∧ (shB s l).length ≤ 768 := by
  have a := rdsL_len ok
  have b := List.length_filter_le (fun z : NW => decide (z.1 ∈ l)) (rdsL s)
  have c := List.length_filter_le (fun p : Nat × Nat => decide (0 < p.2)) (shA s l)
  have d : (shA s l).length ≤ 768 := by
    unfold shA
    rw [List.length_map]
    exact Nat.le_trans (List.length_filter_le _ _) (by omega)
  exact ⟨d, by unfold shB; omega⟩
theorem law_lc3 {ns : List Int} {dr : DrT} {s : Sy} (ok : SyOk s) {l : List Nat} {e2 e4 e8 e9 e10 e11 e12 e14 e15 e16 e17 e18 e19 e20 : Sl} :
    (ev tb (callF tb 11) lc_law_3).1 (EL ns dr [e2, .v (syD s), e4, .v (.lst ((rdsL s).map nwD)), .un, .v (.lst (natsD l)), e8, e9, e10, e11, e12, .un, e14, e15, e16, e17, e18, e19, e20]) = some (.ok (.fr (.lst ((shA s l).map frD))) (EL ns dr [e2, .v (syD s), e4, .v (.lst ((rdsL s).map nwD)), .un, .v (.lst (natsD l)), e8, e9, e10, e11, e12, .un, e14, e15, e16, e17, e18, e19, e20])) := by
  have e : (shA s l).map frD = (rdsL s).filterMap fun z => if decide (z.1 ∈ l) = true then some (frD (c0 s z.1 z.2, ca s z.1 z.2)) else none := by
    rw [fm_if (fun z : NW => decide (z.1 ∈ l)) (fun z => frD (c0 s z.1 z.2, ca s z.1 z.2))]
    unfold shA
    rw [List.map_map]; rfl
  rw [e]
  refine lc_of (rdsL s) nwD (fun z => if decide (z.1 ∈ l) = true then some (frD (c0 s z.1 z.2, ca s z.1 z.2)) else none) (e1 := EL ns dr [e2, .v (syD s), e4, .v (.lst ((rdsL s).map nwD)), .un, .v (.lst (natsD l)), e8, e9, e10, e11, e12, .un, e14, e15, e16, e17, e18, e19, e20]) ?_ (by have := rdsL_len ok; omega) fun z hz => ?_
  · generalize (rdsL s).map nwD = RD
    generalize syD s = SD
    simp
  · obtain ⟨a, b, c, d⟩ := rdsL_ok ok z hz
    have h6 := ok.most
    have lc := law_counts_ok (k := 9) ok a d (by omega)
    have gin := in_natsL z.1 l
    have nw : nwD z = .tup [.int (z.1 : Nat), .tup (natsD z.2)] := rfl
    rw [nw]
    generalize (rdsL s).map nwD = RD
    generalize syD s = SD at *
    generalize natsD z.2 = WD at *
    generalize natsD l = LD at *
    generalize frD (c0 s z.1 z.2, ca s z.1 z.2) = FR at *
    by_cases q : z.1 ∈ l
    · rw [decide_eq_true q] at gin
      simp [gin, q, lc]
    · rw [decide_eq_false q] at gin
      simp [gin, q]
theorem law_lc4 {ns : List Int} {dr : DrT} {s : Sy} (ok : SyOk s) {l : List Nat} {e2 e3 e4 e5 e6 e7 e9 e10 e11 e12 e13 e14 e15 e16 e19 e20 : Sl} :
    (ev tb (callF tb 11) lc_law_4).1 (EL ns dr [e2, e3, e4, e5, e6, e7, .v (.lst ((shA s l).map frD)), e9, e10, e11, e12, e13, e14, e15, e16, .un, .un, e19, e20]) = some (.ok (.fr (.lst ((shB s l).map frD))) (EL ns dr [e2, e3, e4, e5, e6, e7, .v (.lst ((shA s l).map frD)), e9, e10, e11, e12, e13, e14, e15, e16, .un, .un, e19, e20])) := by
  have e : (shB s l).map frD = (shA s l).filterMap fun p => if decide (0 < p.2) = true then some (frD p) else none := by
    rw [fm_if (fun p : Nat × Nat => decide (0 < p.2)) frD]; rfl
  rw [e]
  refine lc_of (shA s l) frD (fun p => if decide (0 < p.2) = true then some (frD p) else none) (e1 := EL ns dr [e2, e3, e4, e5, e6, e7, .v (.lst ((shA s l).map frD)), e9, e10, e11, e12, e13, e14, e15, e16, .un, .un, e19, e20]) ?_ (by have := (shB_len ok l).1; omega) fun p hp => ?_
  · generalize (shA s l).map frD = RD
    simp
  · generalize (shA s l).map frD = RD
    by_cases q : 0 < p.2
    · simp [q, frD]
    · simp [q, frD]
theorem law_lc56 {ns : List Int} {dr : DrT} {S : List (Nat × Nat)} (hS : ∀ p ∈ S, p.1 ≤ p.2 ∧ 0 < p.2 ∧ p.2 ≤ 6) (hl : S.length ≤ 768) {e2 e3 e4 e5 e6 e7 e9 e10 e11 e12 e13 e14 e15 e16 e19 e20 : Sl} :
    (ev tb (callF tb 11) lc_law_5).1 (EL ns dr [e2, e3, e4, e5, e6, e7, .v (.lst (S.map frD)), e9, e10, e11, e12, e13, e14, e15, e16, .un, .un, e19, e20]) = some (.ok (.fr (.lst (S.map lowD))) (EL ns dr [e2, e3, e4, e5, e6, e7, .v (.lst (S.map frD)), e9, e10, e11, e12, e13, e14, e15, e16, .un, .un, e19, e20])) := by
  refine lc_mp S frD lowD (e1 := EL ns dr [e2, e3, e4, e5, e6, e7, .v (.lst (S.map frD)), e9, e10, e11, e12, e13, e14, e15, e16, .un, .un, e19, e20]) ?_ (by omega) fun p hp => ?_
  · generalize S.map frD = RD
    simp
  · obtain ⟨a, b, c⟩ := hS p hp
    have ll := law_lowest_ok (k := 8) a b c
    unfold lowD
    generalize S.map frD = RD
    generalize frD (low p.1 p.2) = LD at *
    simp [ll, frD]
theorem fr_in (a : Nat × Nat) (S : List (Nat × Nat)) : inD (frD a) (.lst (S.map lowD)) = some (decide (a ∈ S.map fun p => low p.1 p.2)) := by
  have := enc_in' (Enc.pair Enc.nat Enc.nat) (by decide) a (S.map fun p => low p.1 p.2)
  rw [List.map_map] at this
  exact this
theorem fr_nil (S : List (Nat × Nat)) : eqD (.lst (S.map frD)) (.lst []) = some (decide (S = [])) := enc_eq' (Enc.pair Enc.nat Enc.nat).list (by decide) S []
/-- a path's places -/
def pth (s : Sy) (x : Nat) (w : List Nat) : List Nat := (List.range (w.length + 1)).map fun i => en s x (w.take i)
theorem pth_snoc (s : Sy) (x : Nat) (w : List Nat) (h : Nat) : pth s x (w ++ [h]) = pth s x w ++ [en s x (w ++ [h])] := by
  unfold pth
  rw [List.length_append, List.length_singleton, List.range_succ, List.map_append, List.map_singleton]
  congr 1
  · refine List.map_congr_left fun i hi => ?_
    have := List.mem_range.mp hi
    rw [List.take_append_of_le_length (by omega)]
  · rw [List.take_of_length_le (by simp)]
theorem pth_last (s : Sy) (x : Nat) (w : List Nat) : (pth s x w).getLast? = some (en s x w) := by
  unfold pth
  rw [List.range_succ, List.map_append, List.map_singleton, List.getLast?_append]
  simp [List.take_of_length_le]
theorem pth_at (s : Sy) (x : Nat) (w : List Nat) {i : Nat} (hi : i ≤ w.length) : (pth s x w)[i]? = some (en s x (w.take i)) := by
  unfold pth
  rw [List.getElem?_map, List.getElem?_range (by omega)]; rfl
theorem natsL_last {l : List Nat} {y : Nat} (h : l.getLast? = some y) : ixD (.lst (natsD l)) (.int (-1)) = some (.int (y : Nat)) := by
  rw [ix_last]
  unfold natsD
  rw [List.getLast?_map, h]; rfl
theorem slL_nats (i : Nat) (w : List Nat) : slD (some (i : Nat)) none (.tup (natsD w)) = some (.v (.tup (natsD (w.drop i)))) := by
  rw [slL_tup]
  unfold natsD
  rw [List.map_drop]
theorem path_lp {ns : List Int} {dr : DrT} {s : Sy} (ok : SyOk s) {x : Nat} (hx : x < s.length) {w : List Nat} (hw : ∀ h ∈ w, h ≤ 1) (hl : w.length ≤ 30) {e2 e4 e5 e6 e7 e8 e9 e10 e11 e12 e16 e17 e18 e19 e20 : Sl} :
    evS tb (callF tb 11) lp_law_8 (EL ns dr [e2, .v (syD s), e4, e5, e6, e7, e8, e9, e10, e11, e12, .v (.tup (natsD w)), .ow false (.lst [.int (x : Nat)]), .un, e16, e17, e18, e19, e20]) = some (.nx (EL ns dr [e2, .v (syD s), e4, e5, e6, e7, e8, e9, e10, e11, e12, .v (.tup (natsD w)), .ow false (.lst (natsD (pth s x w))), .un, e16, e17, e18, e19, e20])) := by
  obtain ⟨P, lp, hP⟩ := for_pre (as := fun d => asgT (.nm 15) (.v d)) (body := evB tb (callF tb 11) lb_law_7) (fun (i : Nat) => D.int i) (fun P : List Nat => EL ns dr [e2, .v (syD s), e4, e5, e6, e7, e8, e9, e10, e11, e12, .v (.tup (natsD w)), .ow false (.lst (natsD P)), .un, e16, e17, e18, e19, e20]) (fun pre P => P = pth s x pre) w [x] rfl fun pre h post P e hP => by
    subst hP
    have hh : h ≤ 1 := hw h (by rw [e]; simp)
    have hpl : pre.length ≤ 30 := by
      have := congrArg List.length e
      simp at this
      omega
    obtain ⟨r, r1, r2⟩ := stp_at (en_lt ok pre hx) hh
    have e3 : ixD (stD (stp s h (en s x pre))) (.int 0) = some (.int ((stp s h (en s x pre)).1 : Nat)) := rfl
    have la := natsL_last (pth_last s x pre)
    have pl : (natsD (pth s x pre)).length < 16777216 := by
      rw [natsD_len]
      unfold pth
      rw [List.length_map, List.length_range]; omega
    refine ⟨pth s x (pre ++ [h]), ?_, rfl⟩
    have tf : turnF (fun d => asgT (.nm 15) (.v d)) (evB tb (callF tb 11) lb_law_7) (.int (h : Nat)) (EL ns dr [e2, .v (syD s), e4, e5, e6, e7, e8, e9, e10, e11, e12, .v (.tup (natsD w)), .ow false (.lst (natsD (pth s x pre))), .un, e16, e17, e18, e19, e20]) = (match evB tb (callF tb 11) lb_law_7 (EL ns dr [e2, .v (syD s), e4, e5, e6, e7, e8, e9, e10, e11, e12, .v (.tup (natsD w)), .ow false (.lst (natsD (pth s x pre))), .v (.int (h : Nat)), e16, e17, e18, e19, e20]) with
      | some (.ct e) => some (.nx e)
      | r => r) := rfl
    rw [tf]
    have en1 : en s x (pre ++ [h]) = (stp s h (en s x pre)).1 := en_app s pre [h] x
    rw [pth_snoc, natsD_app, en1]
    generalize syD s = SD at *
    generalize natsD w = WD at *
    generalize natsD (pth s x pre) = PD at *
    generalize stD (stp s h (en s x pre)) = ST at *
    have : evB tb (callF tb 11) lb_law_7 (EL ns dr [e2, .v SD, e4, e5, e6, e7, e8, e9, e10, e11, e12, .v (.tup WD), .ow false (.lst PD), .v (.int (h : Nat)), e16, e17, e18, e19, e20]) = some (.nx (EL ns dr [e2, .v SD, e4, e5, e6, e7, e8, e9, e10, e11, e12, .v (.tup WD), .ow false (.lst (PD ++ natsD [(stp s h (en s x pre)).1])), .un, e16, e17, e18, e19, e20])) := by
      unfold lb_law_7
      ((first | refine isRt_seq (e := ?_) ?_ ?_ | refine eqB_seq (e := ?_) ?_ ?_ | refine isDr_seq (e := ?_) ?_ ?_ | refine isEx_seq (e := ?_) ?_ ?_ | refine outRt_seq (e := ?_) ?_ ?_); rotate_left; focus (simp [la, r1, r2, e3, pl] <;> exact rfl))
      (first | refine isRt_frz rfl ?_ | refine eqB_frz rfl ?_ | refine isDr_frz rfl ?_ | refine isEx_frz rfl ?_ | refine outRt_frz rfl ?_ | refine isRt_clr rfl ?_ | refine eqB_clr rfl ?_ | refine isDr_clr rfl ?_)
      rfl
    rw [this]
  subst hP
  unfold lp_law_8
  rw [loop_u (ds := w.map fun (i : Nat) => D.int i) (e1 := EL ns dr [e2, .v (syD s), e4, e5, e6, e7, e8, e9, e10, e11, e12, .v (.tup (natsD w)), .ow false (.lst [.int (x : Nat)]), .un, e16, e17, e18, e19, e20]) (by generalize syD s = SD; simp [natsD])]
  exact lp
/-- a share between the least and the greatest one -/
structure Bd (a b p : Nat × Nat) : Prop where
  one : p.1 ≤ 1000
  two : p.2 ≤ 1000
  lo : a.1 * p.2 ≤ p.1 * a.2
  hi : p.1 * b.2 ≤ b.1 * p.2
theorem close_turn {ns : List Int} {dr : DrT} {s : Sy} (ok : SyOk s) {x : Nat} (hx : x < s.length) {a b : Nat × Nat} (sh : ShOk s x (some (a, b))) {w : List Nat} (hw : ∀ h ∈ w, h ≤ 1) (hl : w.length ≤ 30) {i : Nat} (hi : i ≤ w.length) {S : List (Nat × Nat)} (hS : S.length ≤ 100000) (hB : ∀ p ∈ S, Bd a b p) {e2 e4 e5 e6 e7 e9 e10 e11 e12 e15 e19 e20 : Sl} :
    ∃ S' : List (Nat × Nat), S'.length ≤ S.length + 1 ∧ (∀ p ∈ S', Bd a b p) ∧ turnF (fun d => asgT (.nm 16) (.v d)) (evB tb (callF tb 11) lb_law_9) (.int (i : Nat)) (EL ns dr [e2, .v (syD s), e4, e5, e6, e7, .v (.lst (S.map frD)), e9, e10, e11, e12, .v (.tup (natsD w)), .ow false (.lst (natsD (pth s x w))), e15, .un, .un, .un, e19, e20]) = some (.nx (EL ns dr [e2, .v (syD s), e4, e5, e6, e7, .v (.lst (S'.map frD)), e9, e10, e11, e12, .v (.tup (natsD w)), .ow false (.lst (natsD (pth s x w))), e15, .un, .un, .un, e19, e20])) := by
  have hu : ∀ h ∈ w.take i, h ≤ 1 := fun h hh => hw h (List.mem_of_mem_take hh)
  have hv : ∀ h ∈ w.drop i, h ≤ 1 := fun h hh => hw h (List.mem_of_mem_drop hh)
  have hy := en_lt ok (w.take i) hx
  have lc := law_counts_ok (k := 9) ok hy hv (by rw [List.length_drop]; omega)
  have la := natsL_last (pth_last s x w)
  have pa := ix_natsL (pth_at s x w hi)
  have sl := slL_nats i w
  have cl := ca_le ok (w.drop i) hy
  have c0l := c0_le s (w.drop i) (en s x (w.take i))
  rw [List.length_drop] at cl
  have tf : turnF (fun d => asgT (.nm 16) (.v d)) (evB tb (callF tb 11) lb_law_9) (.int (i : Nat)) (EL ns dr [e2, .v (syD s), e4, e5, e6, e7, .v (.lst (S.map frD)), e9, e10, e11, e12, .v (.tup (natsD w)), .ow false (.lst (natsD (pth s x w))), e15, .un, .un, .un, e19, e20]) = (match evB tb (callF tb 11) lb_law_9 (EL ns dr [e2, .v (syD s), e4, e5, e6, e7, .v (.lst (S.map frD)), e9, e10, e11, e12, .v (.tup (natsD w)), .ow false (.lst (natsD (pth s x w))), e15, .v (.int (i : Nat)), .un, .un, e19, e20]) with
    | some (.ct e) => some (.nx e)
    | r => r) := rfl
  have sm : (S.map frD).length ≤ 100000 := by rw [List.length_map]; exact hS
  have ewy : en s x w = en s (en s x (w.take i)) (w.drop i) := by rw [← en_app, List.take_append_drop]
  by_cases q : en s x w = en s x (w.take i)
  · have rd := sh.rounds ok hx ⟨w.take i, hu, rfl⟩ hv (by rw [← ewy]; exact q)
    by_cases q2 : 0 < ca s (en s x (w.take i)) (w.drop i)
    · have q2' : (0 : Int) < ((ca s (en s x (w.take i)) (w.drop i) : Nat) : Int) := by omega
      refine ⟨S ++ [(c0 s (en s x (w.take i)) (w.drop i), ca s (en s x (w.take i)) (w.drop i))], by simp, fun p hp => ?_, ?_⟩
      · rcases List.mem_append.mp hp with hp | hp
        · exact hB p hp
        · rw [List.mem_singleton.mp hp]
          exact ⟨by show c0 s _ _ ≤ _; omega, by show ca s _ _ ≤ _; omega, rd.1, rd.2⟩
      · rw [tf, List.map_append, List.map_singleton]
        have ad : binD .Add (.lst (S.map frD)) (.lst [frD (c0 s (en s x (w.take i)) (w.drop i), ca s (en s x (w.take i)) (w.drop i))]) = some (.fr (.lst (S.map frD ++ [frD (c0 s (en s x (w.take i)) (w.drop i), ca s (en s x (w.take i)) (w.drop i))]))) := by
          rw [bn_lst, if_pos (by rw [sizeLine_eq]; show (S.map frD).length + 1 ≤ _; omega)]
        have lc : callV (callF tb 11) f_law_counts [syD s, .int (en s x (w.take i) : Nat), .tup (natsD (w.drop i))] = ret (.v (.tup [.int (c0 s (en s x (w.take i)) (w.drop i) : Nat), .int (ca s (en s x (w.take i)) (w.drop i) : Nat)])) := lc
        have ad : binD .Add (.lst (S.map frD)) (.lst [.tup [.int (c0 s (en s x (w.take i)) (w.drop i) : Nat), .int (ca s (en s x (w.take i)) (w.drop i) : Nat)]]) = some (.fr (.lst (S.map frD ++ [.tup [.int (c0 s (en s x (w.take i)) (w.drop i) : Nat), .int (ca s (en s x (w.take i)) (w.drop i) : Nat)]]))) := ad
        generalize natsD (w.drop i) = VD at *
        generalize natsD (pth s x w) = PD at *
        generalize natsD w = WD at *
        generalize syD s = SD at *
        rw [q] at la
        generalize S.map frD = SS at *
        have key : evB tb (callF tb 11) lb_law_9 (EL ns dr [e2, .v SD, e4, e5, e6, e7, .v (.lst SS), e9, e10, e11, e12, .v (.tup WD), .ow false (.lst PD), e15, .v (.int (i : Nat)), .un, .un, e19, e20]) = some (.nx (EL ns dr [e2, .v SD, e4, e5, e6, e7, .v (.lst (SS ++ [.tup [.int (c0 s (en s x (w.take i)) (w.drop i) : Nat), .int (ca s (en s x (w.take i)) (w.drop i) : Nat)]])), e9, e10, e11, e12, .v (.tup WD), .ow false (.lst PD), e15, .un, .un, .un, e19, e20])) := by
          unfold lb_law_9
          ((first | refine isRt_seq (e := ?_) ?_ ?_ | refine eqB_seq (e := ?_) ?_ ?_ | refine isDr_seq (e := ?_) ?_ ?_ | refine isEx_seq (e := ?_) ?_ ?_ | refine outRt_seq (e := ?_) ?_ ?_); rotate_left; focus (simp [la, pa, sl, lc, -slL_tup] <;> exact rfl))
          ((first | refine isRt_seq (e := ?_) ?_ ?_ | refine eqB_seq (e := ?_) ?_ ?_ | refine isDr_seq (e := ?_) ?_ ?_ | refine isEx_seq (e := ?_) ?_ ?_ | refine outRt_seq (e := ?_) ?_ ?_); rotate_left; focus (simp [q2, q2', ad, -bn_lst] <;> exact rfl))
          (first | refine isRt_frz rfl ?_ | refine eqB_frz rfl ?_ | refine isDr_frz rfl ?_ | refine isEx_frz rfl ?_ | refine outRt_frz rfl ?_ | refine isRt_clr rfl ?_ | refine eqB_clr rfl ?_ | refine isDr_clr rfl ?_)
          rfl
        exact (congrArg (fun o => match o with
          | some (SO.ct e) => some (SO.nx e)
          | r => r) key)
    · have q2' : ¬ (0 : Int) < ((ca s (en s x (w.take i)) (w.drop i) : Nat) : Int) := by omega
      refine ⟨S, by omega, hB, ?_⟩
      rw [tf]
      simp only [frD] at lc
      generalize natsD (w.drop i) = VD at *
      generalize natsD (pth s x w) = PD at *
      generalize natsD w = WD at *
      generalize syD s = SD at *
      generalize S.map frD = SS at *
      rw [q] at la
      have key : evB tb (callF tb 11) lb_law_9 (EL ns dr [e2, .v SD, e4, e5, e6, e7, .v (.lst SS), e9, e10, e11, e12, .v (.tup WD), .ow false (.lst PD), e15, .v (.int (i : Nat)), .un, .un, e19, e20]) = some (.nx (EL ns dr [e2, .v SD, e4, e5, e6, e7, .v (.lst SS), e9, e10, e11, e12, .v (.tup WD), .ow false (.lst PD), e15, .un, .un, .un, e19, e20])) := by
        unfold lb_law_9
        ((first | refine isRt_seq (e := ?_) ?_ ?_ | refine eqB_seq (e := ?_) ?_ ?_ | refine isDr_seq (e := ?_) ?_ ?_ | refine isEx_seq (e := ?_) ?_ ?_ | refine outRt_seq (e := ?_) ?_ ?_); rotate_left; focus (simp [la, pa, sl, lc, -slL_tup] <;> exact rfl))
        ((first | refine isRt_seq (e := ?_) ?_ ?_ | refine eqB_seq (e := ?_) ?_ ?_ | refine isDr_seq (e := ?_) ?_ ?_ | refine isEx_seq (e := ?_) ?_ ?_ | refine outRt_seq (e := ?_) ?_ ?_); rotate_left; focus (simp [q2, q2'] <;> exact rfl))
        (first | refine isRt_frz rfl ?_ | refine eqB_frz rfl ?_ | refine isDr_frz rfl ?_ | refine isEx_frz rfl ?_ | refine outRt_frz rfl ?_ | refine isRt_clr rfl ?_ | refine eqB_clr rfl ?_ | refine isDr_clr rfl ?_)
        rfl
      rw [key]
  · have q' : ¬ ((en s x w : Nat) : Int) = (en s x (w.take i) : Nat) := by omega
    refine ⟨S, by omega, hB, ?_⟩
    rw [tf]
    generalize natsD (pth s x w) = PD at *
    generalize natsD w = WD at *
    generalize syD s = SD at *
    generalize S.map frD = SS at *
    have key : evB tb (callF tb 11) lb_law_9 (EL ns dr [e2, .v SD, e4, e5, e6, e7, .v (.lst SS), e9, e10, e11, e12, .v (.tup WD), .ow false (.lst PD), e15, .v (.int (i : Nat)), .un, .un, e19, e20]) = some (.nx (EL ns dr [e2, .v SD, e4, e5, e6, e7, .v (.lst SS), e9, e10, e11, e12, .v (.tup WD), .ow false (.lst PD), e15, .un, .un, .un, e19, e20])) := by
      unfold lb_law_9
      ((first | refine isRt_seq (e := ?_) ?_ ?_ | refine eqB_seq (e := ?_) ?_ ?_ | refine isDr_seq (e := ?_) ?_ ?_ | refine isEx_seq (e := ?_) ?_ ?_ | refine outRt_seq (e := ?_) ?_ ?_); rotate_left; focus (simp [la, pa, q, q'] <;> exact rfl))
      ((first | refine isRt_seq (e := ?_) ?_ ?_ | refine eqB_seq (e := ?_) ?_ ?_ | refine isDr_seq (e := ?_) ?_ ?_ | refine isEx_seq (e := ?_) ?_ ?_ | refine outRt_seq (e := ?_) ?_ ?_); rotate_left; focus (simp [] <;> exact rfl))
      (first | refine isRt_frz rfl ?_ | refine eqB_frz rfl ?_ | refine isDr_frz rfl ?_ | refine isEx_frz rfl ?_ | refine outRt_frz rfl ?_ | refine isRt_clr rfl ?_ | refine eqB_clr rfl ?_ | refine isDr_clr rfl ?_)
      rfl
    rw [key]
theorem again_turn {ns : List Int} (dr : DrT) {s : Sy} (ok : SyOk s) {x : Nat} (hx : x < s.length) {a b : Nat × Nat} (sh : ShOk s x (some (a, b))) {S : List (Nat × Nat)} (hS : S.length ≤ 90000) (hB : ∀ p ∈ S, Bd a b p) {z : Nat} {e2 e5 e6 e7 e9 e10 e11 e19 e20 : Sl} : ∃ (dr' : DrT) (S' : List (Nat × Nat)), S'.length ≤ S.length + 31 ∧ (∀ p ∈ S', Bd a b p) ∧
    turnF (fun d => asgT (.nm 12) (.v d)) (evB tb (callF tb 11) lb_law_11) (.int (z : Nat)) (EL ns dr [e2, .v (syD s), .v (.int (x : Nat)), e5, e6, e7, .v (.lst (S.map frD)), e9, e10, e11, .un, .un, .un, .un, .un, .un, .un, e19, e20]) = some (.nx (EL ns dr' [e2, .v (syD s), .v (.int (x : Nat)), e5, e6, e7, .v (.lst (S'.map frD)), e9, e10, e11, .un, .un, .un, .un, .un, .un, .un, e19, e20])) := by
  obtain ⟨d1, w, w1, w2, w3⟩ := law_walk_ok (k := 9) dr (most := 30) (by omega)
  have w3 : Drw (callF tb 11) f_law_walk dr [.int 30] (.v (.tup (natsD w))) d1 := w3
  have pl : (natsD (pth s x w)).length = w.length + 1 := by
    rw [natsD_len]
    unfold pth
    rw [List.length_map, List.length_range]
  have r := rng1M_i (i := ((natsD (pth s x w)).length : Nat)) (n := w.length + 1) (by rw [pl]) (by omega)
  have lp1 := path_lp (ns := ns) (dr := d1) ok hx w1 w2 (e2 := e2) (e4 := .v (.int (x : Nat))) (e5 := e5) (e6 := e6) (e7 := e7) (e8 := .v (.lst (S.map frD))) (e9 := e9) (e10 := e10) (e11 := e11) (e12 := .v (.int (z : Nat))) (e16 := .un) (e17 := .un) (e18 := .un) (e19 := e19) (e20 := e20)
  obtain ⟨S', lp2, hl2, hb2⟩ := for_pre (as := fun d => asgT (.nm 16) (.v d)) (body := evB tb (callF tb 11) lb_law_9) (fun (i : Nat) => D.int i) (fun S : List (Nat × Nat) => EL ns d1 [e2, .v (syD s), .v (.int (x : Nat)), e5, e6, e7, .v (.lst (S.map frD)), e9, e10, e11, .v (.int (z : Nat)), .v (.tup (natsD w)), .ow false (.lst (natsD (pth s x w))), .un, .un, .un, .un, e19, e20]) (fun pre S' => S'.length ≤ S.length + pre.length ∧ ∀ p ∈ S', Bd a b p) (List.range (w.length + 1)) S ⟨by simp, hB⟩ fun pre i post S1 e ⟨h1, h2⟩ => by
    have hi : i < w.length + 1 := by
      have : i ∈ List.range (w.length + 1) := by rw [e]; simp
      exact List.mem_range.mp this
    have hpl : pre.length ≤ 31 := by
      have := congrArg List.length e
      simp at this
      omega
    obtain ⟨S2, k1, k2, k3⟩ := close_turn (ns := ns) (dr := d1) ok hx sh w1 w2 (i := i) (by omega) (S := S1) (by omega) h2 (e2 := e2) (e4 := .v (.int (x : Nat))) (e5 := e5) (e6 := e6) (e7 := e7) (e9 := e9) (e10 := e10) (e11 := e11) (e12 := .v (.int (z : Nat))) (e15 := .un) (e19 := e19) (e20 := e20)
    exact ⟨S2, k3, by rw [List.length_append, List.length_singleton]; omega, k2⟩
  rw [List.length_range] at hl2
  refine ⟨d1, S', by omega, hb2, ?_⟩
  have tf : turnF (fun d => asgT (.nm 12) (.v d)) (evB tb (callF tb 11) lb_law_11) (.int (z : Nat)) (EL ns dr [e2, .v (syD s), .v (.int (x : Nat)), e5, e6, e7, .v (.lst (S.map frD)), e9, e10, e11, .un, .un, .un, .un, .un, .un, .un, e19, e20]) = (match evB tb (callF tb 11) lb_law_11 (EL ns dr [e2, .v (syD s), .v (.int (x : Nat)), e5, e6, e7, .v (.lst (S.map frD)), e9, e10, e11, .v (.int (z : Nat)), .un, .un, .un, .un, .un, .un, e19, e20]) with
    | some (.ct e) => some (.nx e)
    | r => r) := rfl
  rw [tf]
  have lp2 : evS tb (callF tb 11) lp_law_10 (EL ns d1 [e2, .v (syD s), .v (.int (x : Nat)), e5, e6, e7, .v (.lst (S.map frD)), e9, e10, e11, .v (.int (z : Nat)), .v (.tup (natsD w)), .ow false (.lst (natsD (pth s x w))), .un, .un, .un, .un, e19, e20]) = some (.nx (EL ns d1 [e2, .v (syD s), .v (.int (x : Nat)), e5, e6, e7, .v (.lst (S'.map frD)), e9, e10, e11, .v (.int (z : Nat)), .v (.tup (natsD w)), .ow false (.lst (natsD (pth s x w))), .un, .un, .un, .un, e19, e20])) := by
    unfold lp_law_10
    rw [loop_u (ds := (List.range (w.length + 1)).map fun (i : Nat) => D.int i) (e1 := EL ns d1 [e2, .v (syD s), .v (.int (x : Nat)), e5, e6, e7, .v (.lst (S.map frD)), e9, e10, e11, .v (.int (z : Nat)), .v (.tup (natsD w)), .ow false (.lst (natsD (pth s x w))), .un, .un, .un, .un, e19, e20])]
    · exact lp2
    · generalize natsD (pth s x w) = PD at *
      generalize natsD w = WD at *
      generalize syD s = SD at *
      generalize S.map frD = SS at *
      simp [r]
  generalize natsD (pth s x w) = PD at *
  generalize natsD w = WD at *
  generalize syD s = SD at *
  generalize S.map frD = SS at *
  generalize S'.map frD = S2 at *
  have key : evB tb (callF tb 11) lb_law_11 (EL ns dr [e2, .v SD, .v (.int (x : Nat)), e5, e6, e7, .v (.lst SS), e9, e10, e11, .v (.int (z : Nat)), .un, .un, .un, .un, .un, .un, e19, e20]) = some (.nx (EL ns d1 [e2, .v SD, .v (.int (x : Nat)), e5, e6, e7, .v (.lst S2), e9, e10, e11, .un, .un, .un, .un, .un, .un, .un, e19, e20])) := by
    unfold lb_law_11
    ((first | refine isRt_seq (e := ?_) ?_ ?_ | refine eqB_seq (e := ?_) ?_ ?_ | refine isDr_seq (e := ?_) ?_ ?_ | refine isEx_seq (e := ?_) ?_ ?_ | refine outRt_seq (e := ?_) ?_ ?_); rotate_left; focus (simp [w3.at1] <;> exact rfl))
    ((first | refine isRt_seq (e := ?_) ?_ ?_ | refine eqB_seq (e := ?_) ?_ ?_ | refine isDr_seq (e := ?_) ?_ ?_ | refine isEx_seq (e := ?_) ?_ ?_ | refine outRt_seq (e := ?_) ?_ ?_); rotate_left; focus (simp [lp1] <;> exact rfl))
    ((first | refine isRt_seq (e := ?_) ?_ ?_ | refine eqB_seq (e := ?_) ?_ ?_ | refine isDr_seq (e := ?_) ?_ ?_ | refine isEx_seq (e := ?_) ?_ ?_ | refine outRt_seq (e := ?_) ?_ ?_); rotate_left; focus (simp [lp2] <;> exact rfl))
    (first | refine isRt_frz rfl ?_ | refine eqB_frz rfl ?_ | refine isDr_frz rfl ?_ | refine isEx_frz rfl ?_ | refine outRt_frz rfl ?_ | refine isRt_clr rfl ?_ | refine eqB_clr rfl ?_ | refine isDr_clr rfl ?_)
    rfl
  rw [key]

end Ev.k71

set_option Elab.async false
set_option linter.all false
set_option maxRecDepth 100000
set_option maxHeartbeats 4000000
namespace Ev.k71
open PySem Ev
theorem check_lp {ns : List Int} {dr : DrT} {a b : Nat × Nat} (ha : a.1 ≤ 1000 ∧ a.2 ≤ 1000) (hb : b.1 ≤ 1000 ∧ b.2 ≤ 1000) {S : List (Nat × Nat)} (hB : ∀ p ∈ S, Bd a b p) {e2 e3 e4 e5 e6 e7 e9 e12 e13 e14 e15 e16 e19 e20 : Sl} :
    evS tb (callF tb 11) lp_law_14 (EL ns dr [e2, e3, e4, e5, e6, e7, .v (.lst (S.map frD)), e9, .v (frD a), .v (frD b), e12, e13, e14, e15, e16, .un, .un, e19, e20]) = some (.nx (EL ns dr [e2, e3, e4, e5, e6, e7, .v (.lst (S.map frD)), e9, .v (frD a), .v (frD b), e12, e13, e14, e15, e16, .un, .un, e19, e20])) := by
  have lp := for_fold (as := fun d => asgT (.tp (.cons (.nm 17) (.cons (.nm 18) .nil))) (.v d)) (body := evB tb (callF tb 11) lb_law_13) frD (fun _ : Unit => EL ns dr [e2, e3, e4, e5, e6, e7, .v (.lst (S.map frD)), e9, .v (frD a), .v (frD b), e12, e13, e14, e15, e16, .un, .un, e19, e20]) (fun _ _ => ()) (fun _ _ => True) S () trivial fun i z p hp _ _ => by
    obtain ⟨p1, p2, p3, p4⟩ := hB p hp
    refine ⟨trivial, ?_⟩
    have m1 : mulM (p.1 : Nat) (a.2 : Nat) = some (.v (.int ((p.1 : Nat) * (a.2 : Nat)))) := mulM_l (by omega) (by omega)
    have m2 : mulM (a.1 : Nat) (p.2 : Nat) = some (.v (.int ((a.1 : Nat) * (p.2 : Nat)))) := mulM_l (by omega) (by omega)
    have m3 : mulM (p.1 : Nat) (b.2 : Nat) = some (.v (.int ((p.1 : Nat) * (b.2 : Nat)))) := mulM_l (by omega) (by omega)
    have m4 : mulM (b.1 : Nat) (p.2 : Nat) = some (.v (.int ((b.1 : Nat) * (p.2 : Nat)))) := mulM_l (by omega) (by omega)
    have c1 : ¬ ((p.1 : Nat) : Int) * (a.2 : Nat) < (a.1 : Nat) * (p.2 : Nat) := by
      have : ((a.1 * p.2 : Nat) : Int) ≤ ((p.1 * a.2 : Nat) : Int) := by exact_mod_cast p3
      push_cast at this
      omega
    have c2 : ¬ ((b.1 : Nat) : Int) * (p.2 : Nat) < (p.1 : Nat) * (b.2 : Nat) := by
      have : ((p.1 * b.2 : Nat) : Int) ≤ ((b.1 * p.2 : Nat) : Int) := by exact_mod_cast p4
      push_cast at this
      omega
    have tf : turnF (fun d => asgT (.tp (.cons (.nm 17) (.cons (.nm 18) .nil))) (.v d)) (evB tb (callF tb 11) lb_law_13) (frD p) (EL ns dr [e2, e3, e4, e5, e6, e7, .v (.lst (S.map frD)), e9, .v (frD a), .v (frD b), e12, e13, e14, e15, e16, .un, .un, e19, e20]) = (match evB tb (callF tb 11) lb_law_13 (EL ns dr [e2, e3, e4, e5, e6, e7, .v (.lst (S.map frD)), e9, .v (frD a), .v (frD b), e12, e13, e14, e15, e16, .v (.int (p.1 : Nat)), .v (.int (p.2 : Nat)), e19, e20]) with
      | some (.ct e) => some (.nx e)
      | r => r) := by
      generalize evB tb (callF tb 11) lb_law_13 = BB
      generalize S.map frD = SS
      simp only [frD]
      simp <;> rfl
    rw [tf]
    have key : evB tb (callF tb 11) lb_law_13 (EL ns dr [e2, e3, e4, e5, e6, e7, .v (.lst (S.map frD)), e9, .v (frD a), .v (frD b), e12, e13, e14, e15, e16, .v (.int (p.1 : Nat)), .v (.int (p.2 : Nat)), e19, e20]) = some (.nx (EL ns dr [e2, e3, e4, e5, e6, e7, .v (.lst (S.map frD)), e9, .v (frD a), .v (frD b), e12, e13, e14, e15, e16, .un, .un, e19, e20])) := by
      generalize S.map frD = SS
      simp only [frD]
      unfold lb_law_13
      ((first | refine isRt_seq (e := ?_) ?_ ?_ | refine eqB_seq (e := ?_) ?_ ?_ | refine isDr_seq (e := ?_) ?_ ?_ | refine isEx_seq (e := ?_) ?_ ?_ | refine outRt_seq (e := ?_) ?_ ?_); rotate_left; focus (simp [m1, m2, m3, m4, c1, c2] <;> exact rfl))
      (first | refine isRt_frz rfl ?_ | refine eqB_frz rfl ?_ | refine isDr_frz rfl ?_ | refine isEx_frz rfl ?_ | refine outRt_frz rfl ?_ | refine isRt_clr rfl ?_ | refine eqB_clr rfl ?_ | refine isDr_clr rfl ?_)
      rfl
    rw [key]
  unfold lp_law_14
  rw [loop_u (ds := S.map frD) (e1 := EL ns dr [e2, e3, e4, e5, e6, e7, .v (.lst (S.map frD)), e9, .v (frD a), .v (frD b), e12, e13, e14, e15, e16, .un, .un, e19, e20])]
  · exact lp.1
  · generalize S.map frD = SS
    simp
theorem again_lp {ns : List Int} (dr : DrT) {s : Sy} (ok : SyOk s) {x : Nat} (hx : x < s.length) {a b : Nat × Nat} (sh : ShOk s x (some (a, b))) {S : List (Nat × Nat)} (hS : S.length ≤ 768) (hB : ∀ p ∈ S, Bd a b p) {e2 e5 e6 e7 e9 e10 e11 e19 e20 : Sl} : ∃ (dr' : DrT) (S' : List (Nat × Nat)), (∀ p ∈ S', Bd a b p) ∧
    evS tb (callF tb 11) lp_law_12 (EL ns dr [e2, .v (syD s), .v (.int (x : Nat)), e5, e6, e7, .v (.lst (S.map frD)), e9, e10, e11, .un, .un, .un, .un, .un, .un, .un, e19, e20]) = some (.nx (EL ns dr' [e2, .v (syD s), .v (.int (x : Nat)), e5, e6, e7, .v (.lst (S'.map frD)), e9, e10, e11, .un, .un, .un, .un, .un, .un, .un, e19, e20])) := by
  have r := rng1M_i (i := 6) (n := 6) rfl (by omega)
  obtain ⟨z, lp, h1, h2⟩ := for_pre (as := fun d => asgT (.nm 12) (.v d)) (body := evB tb (callF tb 11) lb_law_11) (fun (i : Nat) => D.int i) (fun z : DrT × List (Nat × Nat) => EL ns z.1 [e2, .v (syD s), .v (.int (x : Nat)), e5, e6, e7, .v (.lst (z.2.map frD)), e9, e10, e11, .un, .un, .un, .un, .un, .un, .un, e19, e20]) (fun pre z => z.2.length ≤ 768 + 31 * pre.length ∧ ∀ p ∈ z.2, Bd a b p) (List.range 6) (dr, S) ⟨by simpa using hS, hB⟩ fun pre i post z e ⟨h1, h2⟩ => by
    have hpl : pre.length ≤ 6 := by
      have := congrArg List.length e
      simp at this
      omega
    obtain ⟨d', S', k1, k2, k3⟩ := again_turn (ns := ns) z.1 ok hx sh (S := z.2) (by omega) h2 (z := i) (e2 := e2) (e5 := e5) (e6 := e6) (e7 := e7) (e9 := e9) (e10 := e10) (e11 := e11) (e19 := e19) (e20 := e20)
    exact ⟨(d', S'), k3, by rw [List.length_append, List.length_singleton]; show S'.length ≤ _; omega, k2⟩
  refine ⟨z.1, z.2, h2, ?_⟩
  unfold lp_law_12
  rw [loop_u (ds := (List.range 6).map fun (i : Nat) => D.int i) (e1 := EL ns dr [e2, .v (syD s), .v (.int (x : Nat)), e5, e6, e7, .v (.lst (S.map frD)), e9, e10, e11, .un, .un, .un, .un, .un, .un, .un, e19, e20]) (by simp only [evI_rng1_v, ev_int, both_u, bnd_u, ret_u, intR_u, cont_v, Option.bind_some, intD_int, r])]
  exact lp
theorem rp_nats {l : List Nat} (h : ∀ x ∈ l, x < 1000000000) : Rp (.tup (natsD l)) (l.length * 31) 1 := Rp.tup (RpL.map fun x hx => Rp.nat (h x hx))
theorem rp_rounds {s : Sy} (ok : SyOk s) : Rp (.tup ((srtP (rdsL s)).map nwD)) 300000 3 := by
  have h6 := ok.most
  have l := rdsL_len ok
  have a := Rp.tup (RpL.map (f := nwD) (l := srtP (rdsL s)) (w := 31 + 31 * 6 + 1) (n := 2) fun z hz => by
    obtain ⟨a, b, c, d⟩ := rdsL_ok ok z (srtP_mem.mp hz)
    have r1 := (Rp.nat (i := z.1) (by omega)).mono (n' := 1) (Nat.le_refl _) (by omega)
    have r2 := rp_nats (l := z.2) fun x hx => by have := d x hx; omega
    exact (Rp.tup (RpL.cons r1 (RpL.cons r2 RpL.nil))).mono (by omega) (Nat.le_refl _))
  refine a.mono ?_ (Nat.le_refl _)
  rw [(srtP_perm _).length_eq]
  omega
abbrev tE (ns : List Int) (z : DrT × Option Sy) : Env := EL ns z.1 [.un, (match z.2 with | none => .un | some s => .v (syD s)), .un, .un, .un, .un, .un, .un, .un, .un, .un, .un, .un, .un, .un, .un, .un, .un, .un]
theorem law_turn {ns : List Int} (z : DrT × Option Sy) {i : Nat} : ∃ z' : DrT × Option Sy, (∃ s, z'.2 = some s ∧ SyOk s) ∧ turnF (fun d => asgT (.nm 2) (.v d)) (evB tb (callF tb 11) lb_law_15) (.int i) (tE ns z) = some (.nx (tE ns z')) := by
  obtain ⟨dr, s3⟩ := z
  obtain ⟨d1, s, ok, _, l1⟩ := law_system_ok (k := 9) dr (most := 6) (by omega) (by omega)
  have l1 : Drw (callF tb 11) f_law_system dr [.int 6] (.v (syD s)) d1 := l1
  have h6 := ok.most
  obtain ⟨x, d2, t1, hx⟩ := take_ok (k := 10) d1 (m := s.length) (by have := ok.pos; omega) (by omega)
  have t1 : Drw (callF tb 11) f_law_take d1 [.int (s.length : Nat)] (.v (.int x)) d2 := t1
  have rl := rows_lp (ns := ns) (dr := d2) ok (e2 := .v (.int i)) (e4 := .v (.int x)) (e7 := .un) (e8 := .un) (e9 := .un) (e10 := .un) (e11 := .un) (e12 := .un) (e13 := .un) (e14 := .un) (e15 := .un) (e16 := .un) (e17 := .un) (e18 := .un) (e19 := .un) (e20 := .un)
  have sr : callV (callF tb 11) f_simple_rounds [syD s] = _ := simple_rounds_ok (k := 5) ok
  obtain ⟨sg, hsg⟩ := (rp_rounds ok).repr (by omega) (by omega)
  have so := sort_nw (rdsL s) (by have := rdsL_len ok; omega)
  obtain ⟨l, _, hl, lre⟩ := law_reached_ok (k := 10) ok hx
  have l3 := law_lc3 (ns := ns) (dr := d2) ok (l := l) (e2 := .v (.int i)) (e4 := .v (.int x)) (e8 := .un) (e9 := .un) (e10 := .un) (e11 := .un) (e12 := .un) (e14 := .un) (e15 := .un) (e16 := .un) (e17 := .un) (e18 := .un) (e19 := .un) (e20 := .un)
  have l4 := law_lc4 (ns := ns) (dr := d2) ok (l := l) (e2 := .v (.int i)) (e3 := .v (syD s)) (e4 := .v (.int x)) (e5 := .v (.lst ((rdsL s).map nwD))) (e6 := .un) (e7 := .v (.lst (natsD l))) (e9 := .un) (e10 := .un) (e11 := .un) (e12 := .un) (e13 := .un) (e14 := .un) (e15 := .un) (e16 := .un) (e19 := .un) (e20 := .un)
  obtain ⟨o, sh, sv⟩ := share_range_ok (k := 5) ok hx
  have sv : callV (callF tb 11) f_share_range [syD s, .int x] = ret (.v (shD o)) := sv
  have nil := fr_nil (shB s l)
  have mem := fun p => shB_mem (x := x) hl (p := p)
  have isn : ∀ l : List D, cmpD .Is (.tup l) .non = some false := fun _ => rfl
  have isn0 : cmpD .Is .non .non = some true := rfl
  have isnt : ∀ l : List D, cmpD .IsNot (.tup l) .non = some true := fun _ => rfl
  have isnt0 : cmpD .IsNot .non .non = some false := rfl
  have start : ∀ (X : Sl) (Z : Option SO), (X = .un ∨ ∃ d, X = .v d) → evB tb (callF tb 11) lb_law_15 (EL ns dr [.v (.int i), .un, .un, .un, .un, .un, .un, .un, .un, .un, .un, .un, .un, .un, .un, .un, .un, .un, .un]) = Z → evB tb (callF tb 11) lb_law_15 (EL ns dr [.v (.int i), X, .un, .un, .un, .un, .un, .un, .un, .un, .un, .un, .un, .un, .un, .un, .un, .un, .un]) = Z := fun X Z hX h => by
    rw [← h]
    have e : ∀ Y : Sl, (Y = .un ∨ ∃ d, Y = .v d) → evS tb (callF tb 11) (.asg (.nm 3) (.call f_law_system (.cons (.var 1) (.cons (.int 6) .nil)))) (EL ns dr [.v (.int i), Y, .un, .un, .un, .un, .un, .un, .un, .un, .un, .un, .un, .un, .un, .un, .un, .un, .un]) = some (.nx (EL ns d1 [.v (.int i), .v (syD s), .un, .un, .un, .un, .un, .un, .un, .un, .un, .un, .un, .un, .un, .un, .un, .un, .un])) := fun Y hY => by
      generalize syD s = SD at *
      rcases hY with rfl | ⟨d, rfl⟩
      · simp [l1.at1]
      · simp [l1.at1]
    unfold lb_law_15
    rw [seq_nx (e X hX), seq_nx (e .un (.inl rfl))]
  have body : ∃ d3 : DrT, evB tb (callF tb 11) lb_law_15 (EL ns dr [.v (.int i), .un, .un, .un, .un, .un, .un, .un, .un, .un, .un, .un, .un, .un, .un, .un, .un, .un, .un]) = some (.nx (EL ns d3 [.un, .v (syD s), .un, .un, .un, .un, .un, .un, .un, .un, .un, .un, .un, .un, .un, .un, .un, .un, .un])) := by
    cases o with
    | none =>
      have e0 : shB s l = [] := List.eq_nil_iff_forall_not_mem.mpr fun p hp => sh.non.mp rfl p ((mem p).mp hp)
      rw [e0] at nil l4
      simp only [decide_true, List.map_nil] at nil l4
      refine ⟨d2, ?_⟩
      simp only [shD] at sv
      have ls : biD .len [syD s] = some (.v (.int (s.length : Nat))) := len_syD s
      generalize (shA s l).map frD = SA at *
      generalize (srtP (rdsL s)).map nwD = SR at *
      generalize (rdsL s).map nwD = RD at *
      generalize natsD l = LD at *
      generalize syD s = SD at *
      unfold lb_law_15
      ((first | refine isRt_seq (e := ?_) ?_ ?_ | refine eqB_seq (e := ?_) ?_ ?_ | refine isDr_seq (e := ?_) ?_ ?_ | refine isEx_seq (e := ?_) ?_ ?_ | refine outRt_seq (e := ?_) ?_ ?_); rotate_left; focus (simp [l1.at1] <;> exact rfl))
      ((first | refine isRt_seq (e := ?_) ?_ ?_ | refine eqB_seq (e := ?_) ?_ ?_ | refine isDr_seq (e := ?_) ?_ ?_ | refine isEx_seq (e := ?_) ?_ ?_ | refine outRt_seq (e := ?_) ?_ ?_); rotate_left; focus (simp [ls, t1.at1] <;> exact rfl))
      (first | refine isRt_frz rfl ?_ | refine eqB_frz rfl ?_ | refine isDr_frz rfl ?_ | refine isEx_frz rfl ?_ | refine outRt_frz rfl ?_ | refine isRt_clr rfl ?_ | refine eqB_clr rfl ?_ | refine isDr_clr rfl ?_)
      refine eqB_seq rl ?_
      ((first | refine isRt_seq (e := ?_) ?_ ?_ | refine eqB_seq (e := ?_) ?_ ?_ | refine isDr_seq (e := ?_) ?_ ?_ | refine isEx_seq (e := ?_) ?_ ?_ | refine outRt_seq (e := ?_) ?_ ?_); rotate_left; focus (simp [sr, so, hsg, -bi_sorted] <;> exact rfl))
      ((first | refine isRt_seq (e := ?_) ?_ ?_ | refine eqB_seq (e := ?_) ?_ ?_ | refine isDr_seq (e := ?_) ?_ ?_ | refine isEx_seq (e := ?_) ?_ ?_ | refine outRt_seq (e := ?_) ?_ ?_); rotate_left; focus (simp [lre] <;> exact rfl))
      (first | refine isRt_frz rfl ?_ | refine eqB_frz rfl ?_ | refine isDr_frz rfl ?_ | refine isEx_frz rfl ?_ | refine outRt_frz rfl ?_ | refine isRt_clr rfl ?_ | refine eqB_clr rfl ?_ | refine isDr_clr rfl ?_)
      ((first | refine isRt_seq (e := ?_) ?_ ?_ | refine eqB_seq (e := ?_) ?_ ?_ | refine isDr_seq (e := ?_) ?_ ?_ | refine isEx_seq (e := ?_) ?_ ?_ | refine outRt_seq (e := ?_) ?_ ?_); rotate_left; focus (simp [l3] <;> exact rfl))
      (first | refine isRt_frz rfl ?_ | refine eqB_frz rfl ?_ | refine isDr_frz rfl ?_ | refine isEx_frz rfl ?_ | refine outRt_frz rfl ?_ | refine isRt_clr rfl ?_ | refine eqB_clr rfl ?_ | refine isDr_clr rfl ?_)
      ((first | refine isRt_seq (e := ?_) ?_ ?_ | refine eqB_seq (e := ?_) ?_ ?_ | refine isDr_seq (e := ?_) ?_ ?_ | refine isEx_seq (e := ?_) ?_ ?_ | refine outRt_seq (e := ?_) ?_ ?_); rotate_left; focus (simp [l4] <;> exact rfl))
      (first | refine isRt_frz rfl ?_ | refine eqB_frz rfl ?_ | refine isDr_frz rfl ?_ | refine isEx_frz rfl ?_ | refine outRt_frz rfl ?_ | refine isRt_clr rfl ?_ | refine eqB_clr rfl ?_ | refine isDr_clr rfl ?_)
      ((first | refine isRt_seq (e := ?_) ?_ ?_ | refine eqB_seq (e := ?_) ?_ ?_ | refine isDr_seq (e := ?_) ?_ ?_ | refine isEx_seq (e := ?_) ?_ ?_ | refine outRt_seq (e := ?_) ?_ ?_); rotate_left; focus (simp [sv] <;> exact rfl))
      ((first | refine isRt_seq (e := ?_) ?_ ?_ | refine eqB_seq (e := ?_) ?_ ?_ | refine isDr_seq (e := ?_) ?_ ?_ | refine isEx_seq (e := ?_) ?_ ?_ | refine outRt_seq (e := ?_) ?_ ?_); rotate_left; focus (simp [isn0, nil] <;> exact rfl))
      ((first | refine isRt_seq (e := ?_) ?_ ?_ | refine eqB_seq (e := ?_) ?_ ?_ | refine isDr_seq (e := ?_) ?_ ?_ | refine isEx_seq (e := ?_) ?_ ?_ | refine outRt_seq (e := ?_) ?_ ?_); rotate_left; focus (simp [isnt0] <;> exact rfl))
      (first | refine isRt_frz rfl ?_ | refine eqB_frz rfl ?_ | refine isDr_frz rfl ?_ | refine isEx_frz rfl ?_ | refine outRt_frz rfl ?_ | refine isRt_clr rfl ?_ | refine eqB_clr rfl ?_ | refine isDr_clr rfl ?_)
      rfl
    | some ab =>
      obtain ⟨a, b⟩ := ab
      have ne : ¬ shB s l = [] := fun e => by
        obtain ⟨p, hp, _⟩ := sh.one a b rfl
        have := (mem p).mpr hp
        rw [e] at this
        cases this
      rw [decide_eq_false ne] at nil
      have pos : ∀ p ∈ shB s l, p.1 ≤ p.2 ∧ 0 < p.2 ∧ p.2 ≤ 6 := fun p hp => by
        have := (mem p).mp hp
        exact ⟨(this.le ok).1, this.1, (this.le ok).2⟩
      have hb : ∀ p ∈ shB s l, Bd a b p := fun p hp => by
        obtain ⟨q1, q2, q3⟩ := pos p hp
        have := sh.all a b rfl p ((mem p).mp hp)
        exact ⟨by omega, by omega, this.1, this.2⟩
      have len := (shB_len ok l).2
      obtain ⟨d3, S', hb', al⟩ := again_lp (ns := ns) d2 ok hx sh len hb (e2 := .v (.int i)) (e5 := .v (.lst ((rdsL s).map nwD))) (e6 := .un) (e7 := .v (.lst (natsD l))) (e9 := .v (.tup [frD a, frD b])) (e10 := .v (frD a)) (e11 := .v (frD b)) (e19 := .un) (e20 := .un)
      have ab6 : (a.1 ≤ 1000 ∧ a.2 ≤ 1000) ∧ b.1 ≤ 1000 ∧ b.2 ≤ 1000 := by
        obtain ⟨p, hp, rfl⟩ := sh.one a b rfl
        obtain ⟨q, hq, rfl⟩ := sh.two _ b rfl
        have a1 := low_le (hp.le ok).1 hp.1 (hp.le ok).2
        have a2 := low_le (hq.le ok).1 hq.1 (hq.le ok).2
        omega
      have ch := check_lp (ns := ns) (dr := d3) ab6.1 ab6.2 hb' (e2 := .v (.int i)) (e3 := .v (syD s)) (e4 := .v (.int x)) (e5 := .v (.lst ((rdsL s).map nwD))) (e6 := .un) (e7 := .v (.lst (natsD l))) (e9 := .v (.tup [frD a, frD b])) (e12 := .un) (e13 := .un) (e14 := .un) (e15 := .un) (e16 := .un) (e19 := .un) (e20 := .un)
      have l5 := law_lc56 (ns := ns) (dr := d2) pos len (e2 := .v (.int i)) (e3 := .v (syD s)) (e4 := .v (.int x)) (e5 := .v (.lst ((rdsL s).map nwD))) (e6 := .un) (e7 := .v (.lst (natsD l))) (e9 := .v (.tup [frD a, frD b])) (e10 := .v (frD a)) (e11 := .v (frD b)) (e12 := .un) (e13 := .un) (e14 := .un) (e15 := .un) (e16 := .un) (e19 := .un) (e20 := .un)
      have l6 : (ev tb (callF tb 11) lc_law_6).1 _ = _ := l5
      have ina := fr_in a (shB s l)
      have inb := fr_in b (shB s l)
      rw [decide_eq_true (by
        obtain ⟨p, hp, e⟩ := sh.one a b rfl
        exact List.mem_map.mpr ⟨p, (mem p).mpr hp, e.symm⟩)] at ina
      rw [decide_eq_true (by
        obtain ⟨p, hp, e⟩ := sh.two a b rfl
        exact List.mem_map.mpr ⟨p, (mem p).mpr hp, e.symm⟩)] at inb
      refine ⟨d3, ?_⟩
      have sv : callV (callF tb 11) f_share_range [syD s, .int x] = ret (.v (.tup [frD a, frD b])) := sv
      have ls : biD .len [syD s] = some (.v (.int (s.length : Nat))) := len_syD s
      generalize (shA s l).map frD = SA at *
      generalize (shB s l).map frD = SB at *
      generalize (shB s l).map lowD = SL at *
      generalize S'.map frD = SS at *
      generalize frD a = AD at *
      generalize frD b = BD at *
      generalize (srtP (rdsL s)).map nwD = SR at *
      generalize (rdsL s).map nwD = RD at *
      generalize natsD l = LD at *
      generalize syD s = SD at *
      unfold lb_law_15
      ((first | refine isRt_seq (e := ?_) ?_ ?_ | refine eqB_seq (e := ?_) ?_ ?_ | refine isDr_seq (e := ?_) ?_ ?_ | refine isEx_seq (e := ?_) ?_ ?_ | refine outRt_seq (e := ?_) ?_ ?_); rotate_left; focus (simp [l1.at1] <;> exact rfl))
      ((first | refine isRt_seq (e := ?_) ?_ ?_ | refine eqB_seq (e := ?_) ?_ ?_ | refine isDr_seq (e := ?_) ?_ ?_ | refine isEx_seq (e := ?_) ?_ ?_ | refine outRt_seq (e := ?_) ?_ ?_); rotate_left; focus (simp [ls, t1.at1] <;> exact rfl))
      (first | refine isRt_frz rfl ?_ | refine eqB_frz rfl ?_ | refine isDr_frz rfl ?_ | refine isEx_frz rfl ?_ | refine outRt_frz rfl ?_ | refine isRt_clr rfl ?_ | refine eqB_clr rfl ?_ | refine isDr_clr rfl ?_)
      refine eqB_seq rl ?_
      ((first | refine isRt_seq (e := ?_) ?_ ?_ | refine eqB_seq (e := ?_) ?_ ?_ | refine isDr_seq (e := ?_) ?_ ?_ | refine isEx_seq (e := ?_) ?_ ?_ | refine outRt_seq (e := ?_) ?_ ?_); rotate_left; focus (simp [sr, so, hsg, -bi_sorted] <;> exact rfl))
      ((first | refine isRt_seq (e := ?_) ?_ ?_ | refine eqB_seq (e := ?_) ?_ ?_ | refine isDr_seq (e := ?_) ?_ ?_ | refine isEx_seq (e := ?_) ?_ ?_ | refine outRt_seq (e := ?_) ?_ ?_); rotate_left; focus (simp [lre] <;> exact rfl))
      (first | refine isRt_frz rfl ?_ | refine eqB_frz rfl ?_ | refine isDr_frz rfl ?_ | refine isEx_frz rfl ?_ | refine outRt_frz rfl ?_ | refine isRt_clr rfl ?_ | refine eqB_clr rfl ?_ | refine isDr_clr rfl ?_)
      ((first | refine isRt_seq (e := ?_) ?_ ?_ | refine eqB_seq (e := ?_) ?_ ?_ | refine isDr_seq (e := ?_) ?_ ?_ | refine isEx_seq (e := ?_) ?_ ?_ | refine outRt_seq (e := ?_) ?_ ?_); rotate_left; focus (simp [l3] <;> exact rfl))
      (first | refine isRt_frz rfl ?_ | refine eqB_frz rfl ?_ | refine isDr_frz rfl ?_ | refine isEx_frz rfl ?_ | refine outRt_frz rfl ?_ | refine isRt_clr rfl ?_ | refine eqB_clr rfl ?_ | refine isDr_clr rfl ?_)
      ((first | refine isRt_seq (e := ?_) ?_ ?_ | refine eqB_seq (e := ?_) ?_ ?_ | refine isDr_seq (e := ?_) ?_ ?_ | refine isEx_seq (e := ?_) ?_ ?_ | refine outRt_seq (e := ?_) ?_ ?_); rotate_left; focus (simp [l4] <;> exact rfl))
      (first | refine isRt_frz rfl ?_ | refine eqB_frz rfl ?_ | refine isDr_frz rfl ?_ | refine isEx_frz rfl ?_ | refine outRt_frz rfl ?_ | refine isRt_clr rfl ?_ | refine eqB_clr rfl ?_ | refine isDr_clr rfl ?_)
      ((first | refine isRt_seq (e := ?_) ?_ ?_ | refine eqB_seq (e := ?_) ?_ ?_ | refine isDr_seq (e := ?_) ?_ ?_ | refine isEx_seq (e := ?_) ?_ ?_ | refine outRt_seq (e := ?_) ?_ ?_); rotate_left; focus (simp [sv] <;> exact rfl))
      ((first | refine isRt_seq (e := ?_) ?_ ?_ | refine eqB_seq (e := ?_) ?_ ?_ | refine isDr_seq (e := ?_) ?_ ?_ | refine isEx_seq (e := ?_) ?_ ?_ | refine outRt_seq (e := ?_) ?_ ?_); rotate_left; focus (simp [isn, nil] <;> exact rfl))
      refine eqB_seq (e := EL ns d3 [.v (.int i), .v SD, .v (.int x), .v (.lst RD), .un, .v (.lst LD), .un, .v (.tup [AD, BD]), .un, .un, .un, .un, .un, .un, .un, .un, .un, .un, .un]) ?_ ?_
      · refine (cond_t (e := EL ns d2 [.v (.int i), .v SD, .v (.int x), .v (.lst RD), .un, .v (.lst LD), .v (.lst SB), .v (.tup [AD, BD]), .un, .un, .un, .un, .un, .un, .un, .un, .un, .un, .un]) (by simp [isnt])).trans ?_
        refine eqB_seq (e := EL ns d2 [.v (.int i), .v SD, .v (.int x), .v (.lst RD), .un, .v (.lst LD), .v (.lst SB), .v (.tup [AD, BD]), .v AD, .v BD, .un, .un, .un, .un, .un, .un, .un, .un, .un]) (by simp) ?_
        refine eqB_seq (e := EL ns d2 [.v (.int i), .v SD, .v (.int x), .v (.lst RD), .un, .v (.lst LD), .v (.lst SB), .v (.tup [AD, BD]), .v AD, .v BD, .un, .un, .un, .un, .un, .un, .un, .un, .un]) (by simp [l5, l6, ina, inb]) ?_
        refine eqB_seq al ?_
        refine eqB_seq ch ?_
        (first | refine isRt_frz rfl ?_ | refine eqB_frz rfl ?_ | refine isDr_frz rfl ?_ | refine isEx_frz rfl ?_ | refine outRt_frz rfl ?_ | refine isRt_clr rfl ?_ | refine eqB_clr rfl ?_ | refine isDr_clr rfl ?_)
        rfl
      · (first | refine isRt_frz rfl ?_ | refine eqB_frz rfl ?_ | refine isDr_frz rfl ?_ | refine isEx_frz rfl ?_ | refine outRt_frz rfl ?_ | refine isRt_clr rfl ?_ | refine eqB_clr rfl ?_ | refine isDr_clr rfl ?_)
        rfl
  obtain ⟨d3, body⟩ := body
  refine ⟨(d3, some s), ⟨s, rfl, ok⟩, ?_⟩
  have tf : turnF (fun d => asgT (.nm 2) (.v d)) (evB tb (callF tb 11) lb_law_15) (.int i) (tE ns (dr, s3)) = (match evB tb (callF tb 11) lb_law_15 (EL ns dr [.v (.int i), (match s3 with | none => .un | some s => .v (syD s)), .un, .un, .un, .un, .un, .un, .un, .un, .un, .un, .un, .un, .un, .un, .un, .un, .un]) with
    | some (.ct e) => some (.nx e)
    | r => r) := rfl
  rw [tf, start _ _ (by cases s3 with | none => exact .inl rfl | some s => exact .inr ⟨_, rfl⟩) body]
/-! odd things -/
theorem told0 {d st : D} (h : callV (callF tb 9) f_check_system [d] = rais ⟨1, .non⟩) : callV (callF tb 11) f_law_told [.int 0, d, st] = ret (.v malD) := by
  refine run_law_told (k := 10) (r := .v malD) ?_
  have c : callV (callF tb 10) f_simple_rounds [d] = rais ⟨1, .non⟩ := rex_simple_rounds (k := 9) (by simp [b_simple_rounds, h])
  simp [b_law_told, c, malD]
theorem told1 {d st : D} (h : callV (callF tb 10) f_share_range [d, st] = rais ⟨1, .non⟩) : callV (callF tb 11) f_law_told [.int 1, d, st] = ret (.v malD) := by
  refine run_law_told (k := 10) (r := .v malD) ?_
  simp [b_law_told, h, malD]
theorem law_ok {ns : List Int} (hl : ns.length ≤ 63) : callV (callF tb 12) f_law [.scr (ns.map D.int)] = ret (.v (.bl true)) := by
  refine run_law (k := 11) (r := .v (.bl true)) ?_
  obtain ⟨dr, d0⟩ := draw_ret (tb := tb) (k := 10) (f := f_law_draw) (ns := ns) (fn_law_draw.trans rfl) hl
  have d0 : callV (callF tb 11) f_law_draw [.scr (ns.map D.int)] = ret (.fr dr.o) := d0
  have lp := for_pre (as := fun d => asgT (.nm 2) (.v d)) (body := evB tb (callF tb 11) lb_law_15) (fun (i : Nat) => D.int i) (tE ns) (fun pre z => pre ≠ [] → ∃ s, z.2 = some s ∧ SyOk s) (List.range 4) (dr, none) (fun h => absurd rfl h) fun pre x post z e _ => by
    obtain ⟨z', h1, h2⟩ := law_turn (ns := ns) z (i := x)
    exact ⟨z', h2, fun _ => h1⟩
  obtain ⟨z, lp, hz⟩ := lp
  obtain ⟨s, hs, ok⟩ := hz (by simp)
  obtain ⟨d1, s3⟩ := z
  simp only at hs
  subst hs
  have r := rng1M_i (i := 4) (n := 4) rfl (by omega)
  have lp : evS tb (callF tb 11) lp_law_16 (EL ns dr [.un, .un, .un, .un, .un, .un, .un, .un, .un, .un, .un, .un, .un, .un, .un, .un, .un, .un, .un]) = some (.nx (EL ns d1 [.un, .v (syD s), .un, .un, .un, .un, .un, .un, .un, .un, .un, .un, .un, .un, .un, .un, .un, .un, .un])) := by
    unfold lp_law_16
    rw [loop_u (ds := (List.range 4).map fun (i : Nat) => D.int i) (e1 := tE ns (dr, none)) (by simp only [evI_rng1_v, ev_int, both_u, bnd_u, ret_u, intR_u, cont_v, Option.bind_some, intD_int, r])]
    exact lp
  obtain ⟨d2, od, o1, o2⟩ := odd_sys_ok (k := 9) d1
  have o2 : Drw (callF tb 11) f_law_odd_system d1 [] (.v od) d2 := o2
  obtain ⟨d3, bd, b1, b2⟩ := odd_st_ok (k := 9) d2 s
  have b2 : Drw (callF tb 11) f_law_odd_state d2 [syD s] (.v bd) d3 := b2
  have t0 := told0 (st := .int 0) (odd_sys (k := 5) o1)
  have t1 := told1 (d := od) (st := .int 0) (rex_share_range (k := 9) (by simp [b_share_range, odd_sys (k := 5) o1]))
  have cs : callV (callF tb 9) f_check_system [syD s] = _ := check_system_ok (k := 5) ok
  have bs : callV (callF tb 9) f_check_state [syD s, bd] = _ := bad_state (k := 6) b1
  have t2 := told1 (d := syD s) (st := bd) (rex_share_range (k := 9) (by
    generalize syD s = SD at *
    simp [b_share_range, cs, bs]))
  have a4 : binD .Mult (.lst [.str "<malformed>"]) (.int 3) = some (.fr (.lst [malD, malD, malD])) := rfl
  have a5 : eqD (.lst [malD, malD, malD]) (.lst [malD, malD, malD]) = some true := by decide +kernel
  generalize syD s = SD at *
  unfold b_law
  ((first | refine isRt_seq (e := ?_) ?_ ?_ | refine eqB_seq (e := ?_) ?_ ?_ | refine isDr_seq (e := ?_) ?_ ?_ | refine isEx_seq (e := ?_) ?_ ?_ | refine outRt_seq (e := ?_) ?_ ?_); rotate_left; focus (simp [d0] <;> exact rfl))
  ((first | refine isRt_seq (e := ?_) ?_ ?_ | refine eqB_seq (e := ?_) ?_ ?_ | refine isDr_seq (e := ?_) ?_ ?_ | refine isEx_seq (e := ?_) ?_ ?_ | refine outRt_seq (e := ?_) ?_ ?_); rotate_left; focus (simp [lp] <;> exact rfl))
  ((first | refine isRt_seq (e := ?_) ?_ ?_ | refine eqB_seq (e := ?_) ?_ ?_ | refine isDr_seq (e := ?_) ?_ ?_ | refine isEx_seq (e := ?_) ?_ ?_ | refine outRt_seq (e := ?_) ?_ ?_); rotate_left; focus (simp [o2.at1, b2.at1] <;> exact rfl))
  (first | refine isRt_frz rfl ?_ | refine eqB_frz rfl ?_ | refine isDr_frz rfl ?_ | refine isEx_frz rfl ?_ | refine outRt_frz rfl ?_ | refine isRt_clr rfl ?_ | refine eqB_clr rfl ?_ | refine isDr_clr rfl ?_)
  simp [t0, t1, t2, a4, a5]

end Ev.k71

set_option Elab.async false
set_option linter.all false
set_option maxRecDepth 100000
set_option maxHeartbeats 0
namespace Ev.k71
open PySem PySem.Spec PyProof.Rows L2 Ev
abbrev PR : Program := PySem.Challenge.pw_stridekinds_k71_whole_shares_of_round_wa
abbrev RR : PySem.W.OpenRow := PySem.W.OpenLaw.row PySem.Challenge.rw_stridekinds_k71_whole_shares_of_round_wa
theorem ok : (L.defs.all fun i => i.ok PR L.nm) = true := by kernel_rfl
theorem binds : Lw.binds PR L.defs := by
  refine ⟨?_, ?_, ?_, ?_, ?_, ?_, ?_, ?_, ?_, ?_, ?_, ?_, ?_, ?_, ?_, ?_, ?_, ?_, ?_, ?_, ?_, ?_, ?_, ?_, ?_, ?_, ?_, ?_, trivial⟩
  · exact fun _ _ _ _ _ _ us hl => match us, hl with | [_], _ => rfl
  · exact fun _ _ _ _ _ _ us hl => match us, hl with | [_, _], _ => rfl
  · exact fun _ _ _ _ _ _ us hl => match us, hl with | [_, _], _ => rfl
  · exact fun _ _ _ _ _ _ us hl => match us, hl with | [_, _], _ => rfl
  · exact fun _ _ _ _ _ _ us hl => match us, hl with | [_, _], _ => rfl
  · exact fun _ _ _ _ _ _ us hl => match us, hl with | [_], _ => rfl
  · exact fun _ _ _ _ _ _ us hl => match us, hl with | [_], _ => rfl
  · exact fun _ _ _ _ _ _ us hl => match us, hl with | [_, _], _ => rfl
  · exact fun _ _ _ _ _ _ us hl => match us, hl with | [_, _], _ => rfl
  · exact fun _ _ _ _ _ _ us hl => match us, hl with | [_, _], _ => rfl
  · exact fun _ _ _ _ _ _ us hl => match us, hl with | [_, _], _ => rfl
  · exact fun _ _ _ _ _ _ us hl => match us, hl with | [_], _ => rfl
  · exact fun _ _ _ _ _ _ us hl => match us, hl with | [_], _ => rfl
  · exact fun _ _ _ _ _ _ us hl => match us, hl with | [_, _, _], _ => rfl
  · exact fun _ _ _ _ _ _ us hl => match us, hl with | [_, _], _ => rfl
  · exact fun _ _ _ _ _ _ us hl => match us, hl with | [_], _ => rfl
  · exact fun _ _ _ _ _ _ us hl => match us, hl with | [_, _], _ => rfl
  · exact fun _ _ _ _ _ _ us hl => match us, hl with | [_, _], _ => rfl
  · exact fun _ _ _ _ _ _ us hl => match us, hl with | [_, _], _ => rfl
  · exact fun _ _ _ _ _ _ us hl => match us, hl with | [_, _, _], _ => rfl
  · exact fun _ _ _ _ _ _ us hl => match us, hl with | [_], _ => rfl
  · exact fun _ _ _ _ _ _ us hl => match us, hl with | [_, _], _ => rfl
  · exact fun _ _ _ _ _ _ us hl => match us, hl with | [_, _, _, _, _], _ => rfl
  · exact fun _ _ _ _ _ _ us hl => match us, hl with | [_, _], _ => rfl
  · exact fun _ _ _ _ _ _ us hl => match us, hl with | [_, _, _], _ => rfl
  · exact fun _ _ _ _ _ _ us hl => match us, hl with | [_, _], _ => rfl
  · exact fun _ _ _ _ _ _ us hl => match us, hl with | [_, _, _], _ => rfl
  · exact fun _ _ _ _ _ _ us hl => match us, hl with | [_], _ => rfl
def fnD : List He.DefD := L.defs.map (·.dd PR)
abbrev hk : PySem.W.Hook := hookV 6 L.ex L.fa fnD
def ob (s : PySem.W.SharedT) : He.AlD := obsVG 6 L.ex L.fa fnD (HandSHeadRun.getT s)
theorem ob_eq (s : PySem.W.SharedT) : ob s = hk.obs s.abs := obsVG_eq (HandSHeadRun.getT_eq s)
def loose0 : List PySem.Str := ["Fault", "Malformed", "is_whole", "common", "lowest", "below", "MOST_STATES", "HANDS", "is_step", "is_system", "check_system", "is_state", "check_state", "reached", "rounds_from", "found_rounds", "simple_rounds", "deeds_in", "share_range", "_law_draw", "_law_take", "_law_system", "_law_walk", "_law_walked", "_law_odd_system", "_law_odd_state", "_law_rounds", "_law_reached", "_law_counts", "_law_lowest"]
def loose1 : List PySem.Str := ["_law_told"]
def loose : List PySem.Str := loose0 ++ loose1
theorem run (w : World) : HandSHeadRun.RunEq RR (PySem.W.view RR.prog [37]) hk ob 3000 loose w := by
  intro os
  kernel_rfl
end Ev.k71
open PySem PySem.W PySem.Calls PyProof.Rows
theorem holds_k71 (law : ∀ ns : List Int, ns.length ≤ 63 → ∃ e, Ev.callF Ev.k71.L.tab 12 Ev.k71.f_law [.v (.scr (ns.map Ev.D.int))] = some (.ret (.v (.bl true)) e)) : PySem.Challenge.rw_stridekinds_k71_whole_shares_of_round_wa.Holds := by
  w_on; o_law
  refine HandSHeadRun.head_any (r := OpenLaw.row PySem.Challenge.rw_stridekinds_k71_whole_shares_of_round_wa) (q := view (OpenLaw.row PySem.Challenge.rw_stridekinds_k71_whole_shares_of_round_wa).prog [37]) (H := Ev.k71.hk) (ob := Ev.k71.ob) (M := 3000) (loose := Ev.k71.loose) (d := HandSHeadRun.topDef (OpenLaw.row PySem.Challenge.rw_stridekinds_k71_whole_shares_of_round_wa).prog 37) (kwd := []) Ev.k71.ob_eq
    (by kernel_rfl) (fun s => by kernel_rfl) Ev.k71.run (by kernel_rfl) (by kernel_rfl) (by kernel_rfl) (by rfl) (by first | assumption | decide +kernel) (by decide +kernel) ⟨rfl, rfl, rfl, rfl, rfl, by decide +kernel⟩ ?hw ?hc
  case hw => w_witness2
  case hc => exact Ev.walk_ev (l := PySem.Challenge.rw_stridekinds_k71_whole_shares_of_round_wa) (n := 63) (k := 12) (L := Ev.k71.L) (f := Ev.k71.f_law) (i := Ev.k71.i_law) rfl (by decide) (by kernel_rfl) ⟨rfl, by decide, by decide⟩ rfl (by kernel_rfl) rfl rfl Ev.k71.ok Ev.k71.binds law

theorem PySem.Challenge.cw_stridekinds_k71_whole_shares_of_round_wa_holds : PySem.Challenge.rw_stridekinds_k71_whole_shares_of_round_wa.Holds := by
  exact holds_k71 fun ns hl => Ev.callV_inv (Ev.k71.law_ok hl)
