import PyProof.Rows.All
import Wide.All
import OpenK.AllK
import Wide.FinOn
import HandS.ForMost
import HandS.Wide
import HandS.WideBits
import HandS.TupAny
import HandS.Style
import HandS.Deep
import HandS.SortInts
import HandS.SortRule
import HandS.IsInst
import HandS.Steps
import HandS.Zip
import HandS.Rev
import HandS.RevRange
import HandS.More
import HandS.Defaults
import HandS.WordsExc
import HandS.Head0
import HandS.Head1
import HandS.Head2
import HandS.HeadEnd
import HandS.HeadHook1
import HandS.HeadHook2
import KE.KSortedM
import KE.KStateDown
import PySem.Challenge.RW_hoopcord_k06_rows_and_texts_told
set_option Elab.async false
set_option linter.all false
set_option maxRecDepth 100000
set_option maxHeartbeats 4000000
/-! MP1: a small language of my own (values, objects, statements) and what it computes. -/
namespace MP
open PySem (PyData)

inductive MV where
  | non | bl (b : Bool) | int (i : Int) | str (s : List Nat) | tup (xs : List MV) | rol (xs : List MV) | ref (n : Nat)
inductive MO where
  | lst (xs : List MV)
abbrev MHp := List MO
abbrev En := List (Option MV)

inductive Op2 where | add | sub | mul | fdiv | mod | pow
  deriving DecidableEq
inductive Cmp where | eq | ne | lt | le | gt | ge | isin | notin | is_ | isnot
  deriving DecidableEq
inductive Bi where | len | abs | sum | min | max | int | list | tuple | sorted | all | any | divmod | str | repr
  deriving DecidableEq
inductive Mt where | append | pop | extend | reverse | join | count | index
  deriving DecidableEq
inductive T where | name (i : Nat) | tup (is : List Nat)
mutual
inductive E where
  | non | bl (b : Bool) | int (i : Int) | str (s : List Nat)
  | var (i : Nat) | glb (x : String) (s : List Nat)
  | bin (op : Op2) (a b : E) | neg (a : E) | not (a : E) | and (es : Es) | or (es : Es)
  | cmp (op : Cmp) (a b : E) | chn (a : E) (c : Ch)
  | ite (c a b : E) | tup (es : Es) | lst (es : Es)
  | call (f : String) (es : Es) | bi (b : Bi) (es : Es) | isi (a : E) (t : String)
  | meth (m : Mt) (o : E) (es : Es) | idx (a i : E) | slc (a : E) (lo hi : Eo)
  | comp (elt : E) (t : T) (it : Ik) (c : Eo)
inductive Es where | nil | cons (e : E) (es : Es)
inductive Eo where | none | some (e : E)
inductive Ch where | one (op : Cmp) (b : E) | more (op : Cmp) (b : E) (r : Ch)
inductive Ik where
  | val (e : E) | rng1 (a : E) | rng2 (a b : E) | rng3 (a b c : E) | enum (e : E) | zip (a b : E) | rev (e : E) | revr (a b : E)
end
mutual
inductive S where
  | set (i : Nat) (e : E) | unp (is : List Nat) (e : E) | par (i j : Nat) (a b : E) | sub (o i e : E) | aug (i : Nat) (op : Op2) (e : E)
  | expr (e : E) | ret (e : E) | pass | brk | iff (c : E) (a b : Ss)
  | fr (t : T) (it : Ik) (b : Ss) (kill : List Nat) | wh (c : E) (b : Ss) (kill : List Nat)
  | rse (c : String) (e : E)
inductive Ss where | nil | cons (s : S) (ss : Ss)
end

/-! ### results -/
inductive R (α : Type) where | ok (a : α) (h : MHp) | ex (c : String) (h : MHp)
abbrev O (α : Type) := Option (R α)
abbrev Ora := String → List MV → MHp → O MV
def bnd {α β : Type} (x : O α) (f : α → MHp → O β) : O β := match x with
  | some (.ok a h) => f a h
  | some (.ex c h) => some (.ex c h)
  | none => none
@[simp] theorem bnd_ok {α β : Type} (a : α) (h : MHp) (f : α → MHp → O β) : bnd (some (.ok a h)) f = f a h := rfl
@[simp] theorem bnd_ex {α β : Type} (c : String) (h : MHp) (f : α → MHp → O β) : bnd (some (.ex c h)) f = some (.ex c h) := rfl
@[simp] theorem bnd_none {α β : Type} (f : α → MHp → O β) : bnd (none : O α) f = none := rfl
def ret {α : Type} (a : α) (h : MHp) : O α := some (.ok a h)

/-! ### references, garbage -/
mutual
def MV.lo (n : Nat) : MV → Bool
  | .ref m => decide (m < n)
  | .tup xs => loL n xs
  | .rol xs => loL n xs
  | _ => true
def loL (n : Nat) : List MV → Bool
  | [] => true
  | x :: xs => x.lo n && loL n xs
end
mutual
def MV.refs : MV → List Nat
  | .ref m => [m]
  | .tup xs => refsL xs
  | .rol xs => refsL xs
  | _ => []
def refsL : List MV → List Nat
  | [] => []
  | x :: xs => x.refs ++ refsL xs
end
mutual
def MV.ren (f : Nat → Nat) : MV → MV
  | .ref m => .ref (f m)
  | .tup xs => .tup (renL f xs)
  | .rol xs => .rol (renL f xs)
  | v => v
def renL (f : Nat → Nat) : List MV → List MV
  | [] => []
  | x :: xs => x.ren f :: renL f xs
end
def MO.lo (n : Nat) : MO → Bool | .lst xs => loL n xs
def MO.refs : MO → List Nat | .lst xs => refsL xs
def MO.ren (f : Nat → Nat) : MO → MO | .lst xs => .lst (renL f xs)
def loH (n : Nat) : MHp → Bool
  | [] => true
  | o :: h => o.lo n && loH n h
def refsAt (h : MHp) (r : Nat) : List Nat := match h[r]? with | some o => o.refs | none => []
def news (n : Nat) (rs seen : List Nat) : List Nat := match rs with
  | [] => []
  | r :: rs => if n ≤ r ∧ r ∉ seen then r :: news n rs (r :: seen) else news n rs seen
def reach (n : Nat) (h : MHp) : Nat → List Nat → List Nat
  | 0, l => l
  | k + 1, l =>
    let more := news n (l.flatMap (refsAt h)) l
    match more with
    | [] => l
    | _ => reach n h k (l ++ more)
def rn (n : Nat) (idx : List Nat) (i : Nat) : Nat := if i < n then i else n + idx.idxOf i
def objs (h : MHp) : List Nat → Option (List MO)
  | [] => some []
  | r :: rs => match h[r]?, objs h rs with | some o, some os => some (o :: os) | _, _ => none
def shut (n : Nat) (idx : List Nat) (rs : List Nat) : Bool := rs.all fun r => decide (r < n) || decide (r ∈ idx)
/-- what is kept of the objects from n on: the indices, in their new order, and the objects -/
def plan (n : Nat) (vs : List MV) (h : MHp) : Option (List Nat × List MO) :=
  if loH n (h.take n) then
    let idx := reach n h 6 (news n (refsL vs) [])
    match objs h idx with
    | some os => if shut n idx (refsL vs) && (os.all fun o => shut n idx o.refs) && decide idx.Nodup && idx.all (fun r => decide (n ≤ r)) then some (idx, os) else none
    | none => none
  else none
def gc (n : Nat) (v : MV) (h : MHp) : MV × MHp :=
  if h.length = n then (v, h) else
  match plan n [v] h with
  | some (idx, os) => (v.ren (rn n idx), h.take n ++ os.map (·.ren (rn n idx)))
  | none => (v, h)
def gcR (n : Nat) (r : O MV) : O MV := match r with
  | some (.ok v h) => let p := gc n v h; some (.ok p.1 p.2)
  | r => r
def vals (ρ : En) : List MV := ρ.filterMap id
def gcE (n : Nat) (ρ : En) (h : MHp) : En × MHp :=
  if h.length = n then (ρ, h) else
  match plan n (vals ρ) h with
  | some (idx, os) => (ρ.map fun o => o.map (·.ren (rn n idx)), h.take n ++ os.map (·.ren (rn n idx)))
  | none => (ρ, h)
def killE (ρ : En) : List Nat → En
  | [] => ρ
  | k :: ks => killE (ρ.set k none) ks

/-! ### values -/
def big : Nat := 16777216
def elems (h : MHp) : MV → Option (List MV)
  | .rol xs => some xs
  | .ref n => match h[n]? with | some (.lst xs) => some xs | none => none
  | _ => none
def seqs (h : MHp) : MV → Option (List MV)
  | .tup xs => some xs
  | v => elems h v
def intsL : List MV → Option (List Int)
  | [] => some []
  | .int i :: xs => (intsL xs).map (i :: ·)
  | _ :: _ => none
def boolsL : List MV → Option (List Bool)
  | [] => some []
  | .bl i :: xs => (boolsL xs).map (i :: ·)
  | _ :: _ => none
def strsL : List MV → Option (List (List Nat))
  | [] => some []
  | .str i :: xs => (strsL xs).map (i :: ·)
  | _ :: _ => none
def mapO {α β : Type} (f : α → Option β) : List α → Option (List β)
  | [] => some []
  | x :: xs => match f x, mapO f xs with | some a, some r => some (a :: r) | _, _ => none
def toD (h : MHp) : Nat → MV → Option PyData
  | _, .non => some .none
  | _, .bl b => some (.bool b)
  | _, .int i => some (.int i)
  | _, .str s => some (.str ⟨s.toArray⟩)
  | 0, .tup _ => none
  | d + 1, .tup xs => (mapO (toD h d) xs).map .tuple
  | 0, .rol _ => none
  | d + 1, .rol xs => (mapO (toD h d) xs).map .list
  | 0, .ref _ => none
  | d + 1, .ref n => match elems h (.ref n) with | some xs => (mapO (toD h d) xs).map .list | none => none
def okD (d : PyData) : Bool := PySem.SeqAt.shaped d
def eqV (h : MHp) : MV → MV → Option Bool
  | .int i, .int j => some (decide (i = j))
  | .str s, .str t => some (decide (s = t))
  | .bl a, .bl b => some (decide (a = b))
  | .non, .non => some true
  | a, b => match toD h 20 a, toD h 20 b with
    | some d, some e => if okD d && okD e then some (d.eqv e) else none
    | _, _ => none
def inV (h : MHp) (x y : MV) : Option Bool := match y with
  | .str t => (match x with | .str [c] => some (decide (c ∈ t)) | _ => none)
  | y => match toD h 20 x, toD h 20 y with
    | some d, some (.list ds) => if okD d && okD (.list ds) then some (ds.any fun z => z.eqv d) else none
    | _, _ => none
def ixN (n : Nat) (i : Int) : Option Nat := if 0 ≤ i then (if i < n then some i.toNat else none) else if -(n : Int) ≤ i then some (i + n).toNat else none
def atI {α : Type} (xs : List α) (i : Int) : Option α := (ixN xs.length i).bind fun j => xs[j]?
def sIx (n d : Nat) : Option Int → Nat
  | none => d
  | some v => if v < 0 then (v + (n : Int)).toNat else min v.toNat n
def cutL {α : Type} (xs : List α) (lo hi : Option Int) : List α := (xs.drop (sIx xs.length 0 lo)).take (sIx xs.length xs.length hi - sIx xs.length 0 lo)
/-- sizes -/
def mulOk (i j : Int) : Bool := decide (i.natAbs < 2 ^ 64) || decide (j.natAbs < 2 ^ 64) || decide (i.natAbs.log2 + j.natAbs.log2 < 1000000)
def new (o : MO) (h : MHp) : O MV := some (.ok (.ref h.length) (h ++ [o]))
def binV (op : Op2) (x y : MV) (h : MHp) : O MV := match op, x, y with
  | .add, .int i, .int j => ret (.int (i + j)) h
  | .add, .str s, .str t => if s.length + t.length ≤ big then ret (.str (s ++ t)) h else none
  | .add, .tup s, .tup t => if s.length + t.length ≤ big then ret (.tup (s ++ t)) h else none
  | .add, .ref a, .ref b => (match elems h (.ref a), elems h (.ref b) with
    | some xs, some ys => if xs.length + ys.length ≤ big then new (.lst (xs ++ ys)) h else none
    | _, _ => none)
  | .sub, .int i, .int j => ret (.int (i - j)) h
  | .mul, .int i, .int j => if mulOk i j then ret (.int (i * j)) h else none
  | .mul, .ref a, .int k => (match elems h (.ref a) with
    | some xs => if 0 ≤ k ∧ xs.length * k.toNat ≤ big ∧ k ≤ 16777216 then new (.lst (List.replicate k.toNat xs).flatten) h else none
    | none => none)
  | .mul, .str s, .int k => if 0 ≤ k ∧ s.length * k.toNat ≤ big ∧ k ≤ 16777216 then ret (.str (List.replicate k.toNat s).flatten) h else none
  | .fdiv, .int i, .int j => if 0 < j ∧ j.natAbs.log2 < 9000 then ret (.int (i / j)) h else none
  | .mod, .int i, .int j => if 0 < j then ret (.int (i % j)) h else if j < 0 then ret (.int (i.fmod j)) h else none
  | .pow, .int i, .int j => if 0 ≤ j ∧ j ≤ 1000000 ∧ i.natAbs < 2 ^ 64 then ret (.int (i ^ j.toNat)) h else none
  | _, _, _ => none
def cmpV (op : Cmp) (x y : MV) (h : MHp) : Option Bool := match op with
  | .eq => eqV h x y
  | .ne => (eqV h x y).map (!·)
  | .isin => inV h x y
  | .notin => (inV h x y).map (!·)
  | .is_ => (match x, y with | .non, .non => some true | _, .non => some false | .bl a, .bl b => some (decide (a = b)) | _, _ => none)
  | .isnot => (match x, y with | .non, .non => some false | _, .non => some true | .bl a, .bl b => some (!decide (a = b)) | _, _ => none)
  | .lt => (match x, y with | .int i, .int j => some (decide (i < j)) | _, _ => none)
  | .le => (match x, y with | .int i, .int j => some (decide (i ≤ j)) | _, _ => none)
  | .gt => (match x, y with | .int i, .int j => some (decide (j < i)) | _, _ => none)
  | .ge => (match x, y with | .int i, .int j => some (decide (j ≤ i)) | _, _ => none)
def insI (i : Int) : List Int → List Int
  | [] => [i]
  | j :: js => if i ≤ j then i :: j :: js else j :: insI i js
def sortI : List Int → List Int
  | [] => []
  | i :: is => insI i (sortI is)
def pairs : List MV → Option (List (Int × Int))
  | [] => some []
  | .tup [.int i, .int j] :: xs => (pairs xs).map ((i, j) :: ·)
  | _ :: _ => none
def leP (p q : Int × Int) : Bool := decide (p.1 < q.1) || (decide (p.1 = q.1) && decide (p.2 ≤ q.2))
def insP (i : Int × Int) : List (Int × Int) → List (Int × Int)
  | [] => [i]
  | j :: js => if leP i j then i :: j :: js else j :: insP i js
def sortP : List (Int × Int) → List (Int × Int)
  | [] => []
  | i :: is => insP i (sortP is)
def ofP (p : Int × Int) : MV := .tup [.int p.1, .int p.2]
def maxL : Int → List Int → Int
  | m, [] => m
  | m, i :: is => maxL (if m < i then i else m) is
def minL : Int → List Int → Int
  | m, [] => m
  | m, i :: is => minL (if i < m then i else m) is
def joinL (sep : List Nat) : List (List Nat) → List Nat
  | [] => []
  | [x] => x
  | x :: xs => x ++ sep ++ joinL sep xs
def biV (b : Bi) (vs : List MV) (h : MHp) : O MV := match b, vs with
  | .len, [.str s] => if s.length ≤ big then ret (.int s.length) h else none
  | .len, [v] => (match seqs h v with | some xs => ret (.int xs.length) h | none => none)
  | .abs, [.int i] => ret (.int (if i < 0 then -i else i)) h
  | .sum, [v] => (match (elems h v).bind intsL with | some ns => ret (.int ns.sum) h | none => none)
  | .min, [.int i, .int j] => ret (.int (if j < i then j else i)) h
  | .max, [.int i, .int j] => ret (.int (if j > i then j else i)) h
  | .min, [v] => (match (elems h v).bind intsL with | some (i :: is) => ret (.int (minL i is)) h | _ => none)
  | .max, [v] => (match (elems h v).bind intsL with | some (i :: is) => ret (.int (maxL i is)) h | _ => none)
  | .int, [.int i] => ret (.int i) h
  | .int, [.bl b] => ret (.int (if b then 1 else 0)) h
  | .list, [v] => (match seqs h v with | some xs => new (.lst xs) h | none => none)
  | .tuple, [v] => (match seqs h v with | some xs => ret (.tup xs) h | none => none)
  | .sorted, [v] => (match elems h v with
    | some xs => (match intsL xs with
      | some ns => new (.lst ((sortI ns).map .int)) h
      | none => match pairs xs with
        | some ps => new (.lst ((sortP ps).map ofP)) h
        | none => none)
    | none => none)
  | .all, [v] => (match (elems h v).bind boolsL with | some bs => ret (.bl (bs.all id)) h | none => none)
  | .any, [v] => (match (elems h v).bind boolsL with | some bs => ret (.bl (bs.any id)) h | none => none)
  | .divmod, [.int i, .int j] => if 0 < j ∧ j.natAbs.log2 < 9000 then ret (.tup [.int (i / j), .int (i % j)]) h else none
  | _, _ => none
def tyV (h : MHp) : MV → Option String
  | .non => some "NoneType"
  | .bl _ => some "bool"
  | .int _ => some "int"
  | .str _ => some "str"
  | .tup _ => some "tuple"
  | .ref n => match h[n]? with | some (.lst _) => some "list" | none => none
  | .rol _ => some "list"
def isiV (t u : String) : Bool := t == u || (t == "bool" && u == "int")
def mtV (m : Mt) (o : MV) (vs : List MV) (h : MHp) : O MV := match m, o, vs with
  | .append, .ref n, [v] => (match h[n]? with | some (.lst xs) => if xs.length < big then ret .non (h.set n (.lst (xs ++ [v]))) else none | _ => none)
  | .pop, .ref n, [] => (match h[n]? with | some (.lst xs) => (match xs.getLast? with | some v => ret v (h.set n (.lst xs.dropLast)) | none => none) | _ => none)
  | .extend, .ref n, [.ref b] => (match h[n]?, elems h (.ref b) with | some (.lst xs), some ys => if xs.length + ys.length < big then ret .non (h.set n (.lst (xs ++ ys))) else none | _, _ => none)
  | .reverse, .ref n, [] => (match h[n]? with | some (.lst xs) => ret .non (h.set n (.lst xs.reverse)) | _ => none)
  | .join, .str s, [v] => (match (seqs h v).bind strsL with
    | some ss => if (ss.map List.length).sum + ss.length * s.length ≤ big then ret (.str (joinL s ss)) h else none
    | none => none)
  | _, _, _ => none
/-- the receiver's kind, ahead of the arguments -/
def rcvOk (m : Mt) (o : MV) (h : MHp) : Bool := match m, o with
  | .join, .str _ => true
  | .append, .ref n => (match h[n]? with | some (.lst _) => true | _ => false)
  | .pop, .ref n => (match h[n]? with | some (.lst _) => true | _ => false)
  | .extend, .ref n => (match h[n]? with | some (.lst _) => true | _ => false)
  | .reverse, .ref n => (match h[n]? with | some (.lst _) => true | _ => false)
  | _, _ => false
def idxV (a i : MV) (h : MHp) : O MV := match a, i with
  | .str s, .int k => if s.length ≤ big then (match atI s k with | some c => ret (.str [c]) h | none => none) else none
  | v, .int k => (match seqs h v with | some xs => (match atI xs k with | some x => ret x h | none => none) | none => none)
  | _, _ => none
def slcV (a : MV) (lo hi : Option Int) (h : MHp) : O MV := match a with
  | .str s => if s.length ≤ big then ret (.str (cutL s lo hi)) h else none
  | .tup xs => ret (.tup (cutL xs lo hi)) h
  | v => (match elems h v with | some xs => new (.lst (cutL xs lo hi)) h | none => none)
def subV (o i v : MV) (h : MHp) : Option MHp := match o, i with
  | .ref n, .int k => (match h[n]? with
    | some (.lst xs) => (match ixN xs.length k with | some j => some (h.set n (.lst (xs.set j v))) | none => none)
    | _ => none)
  | _, _ => none

/-! ### what is walked -/
inductive Src where | vals (xs : List MV) | obj (n : Nat)
def Src.get (h : MHp) : Src → Option (List MV)
  | .vals xs => some xs
  | .obj n => elems h (.ref n)
inductive Items where | one (s : Src) (k : Nat) | enum (s : Src) (k : Nat) | zip (s t : Src) (k : Nat) | rev (s : Src) (k : Nat)
def lenI (h : MHp) : Items → Option Nat
  | .one s _ => (s.get h).map List.length
  | .enum s _ => (s.get h).map List.length
  | .zip s t _ => match s.get h, t.get h with | some xs, some ys => some (min xs.length ys.length) | _, _ => none
  | .rev s k => match s.get h with | some xs => if xs.length = k then some k else none | none => none
def itemI (h : MHp) (i : Nat) : Items → Option MV
  | .one s _ => (s.get h).bind fun xs => xs[i]?
  | .enum s _ => (s.get h).bind fun xs => (xs[i]?).map fun x => .tup [.int i, x]
  | .zip s t _ => match s.get h, t.get h with
    | some xs, some ys => (match xs[i]?, ys[i]? with | some x, some y => some (.tup [x, y]) | _, _ => none)
    | _, _ => none
  | .rev s k => match s.get h with | some xs => if xs.length = k ∧ i < k then xs[k - 1 - i]? else none | none => none
def countI : Items → Nat | .one _ k => k | .enum _ k => k | .zip _ _ k => k | .rev _ k => k
def rngL (lo : Int) (n : Nat) : List MV := (List.range n).map fun (i : Nat) => .int (lo + (i : Int))
def rngC (lo c : Int) (n : Nat) : List MV := (List.range n).map fun (i : Nat) => .int (lo + (i : Int) * c)
def rngN (i j c : Int) : Option Nat :=
  if c ≠ 0 ∧ c.natAbs < 1073741824 ∧ PySem.Builtin.Range.small i j c = true ∧ 0 ≤ PySem.Builtin.Range.rangeSize i j c then some (PySem.Builtin.Range.rangeSize i j c).toNat else none
def smallI (i : Int) : Bool := decide (-(2 ^ 62) ≤ i) && decide (i < 2 ^ 62)
def isL : MV → Bool | .ref _ => true | .rol _ => true | _ => false
def srcL : MV → Src | .ref n => .obj n | .rol xs => .vals xs | _ => .vals []
/-- the value walked, evaluated from heap h on -/
def srcOf (n0 : Nat) (v : MV) (h : MHp) : O (Src × Nat) := match v with
  | .tup xs => ret (.vals xs, xs.length) h
  | .rol xs => ret (.vals xs, xs.length) h
  | .str s => if s.length ≤ big then ret (.vals (s.map fun c => .str [c]), s.length) h else none
  | .ref n => (match elems h (.ref n) with
    | some xs => if n0 ≤ n ∧ loL n0 xs ∧ loH n0 (h.take n0) then ret (.vals xs, xs.length) (h.take n0) else ret (.obj n, xs.length) h
    | none => none)
  | _ => none
def bindT : T → MV → En → Option En
  | .name i, v, ρ => some (ρ.set i (some v))
  | .tup is, .tup vs, ρ => if is.length = vs.length then some ((is.zip vs).foldl (fun ρ p => ρ.set p.1 (some p.2)) ρ) else none
  | _, _, _ => none
def enumL (i : Nat) : List MV → List MV
  | [] => []
  | x :: xs => .tup [.int i, x] :: enumL (i + 1) xs
def zipL : List MV → List MV → List MV
  | x :: xs, y :: ys => .tup [x, y] :: zipL xs ys
  | _, _ => []
/-- nothing is raised -/
def noEx {α : Type} (o : O α) : O α := match o with | some (.ok a h) => some (.ok a h) | _ => none
@[simp] theorem noEx_ok {α : Type} (a : α) (h : MHp) : noEx (some (.ok a h)) = some (.ok a h) := rfl
/-- a comprehension's turns -/
def compL (f : MV → MHp → O (Option MV)) (it : Items) : Nat → Nat → MHp → O (List MV)
  | 0, i, h => if lenI h it = some i then ret [] h else none
  | k + 1, i, h => match itemI h i it with
    | none => none
    | some x => bnd (f x h) fun o h1 => bnd (compL f it k (i + 1) h1) fun ys h2 => ret (match o with | none => ys | some y => y :: ys) h2
/-- a statement's end -/
inductive F where | nx (ρ : En) | rt (v : MV) | bk (ρ : En)
def forL (f : MV → En → MHp → O F) (it : Items) : Nat → Nat → En → MHp → O F
  | 0, i, ρ, h => if lenI h it = some i then ret (.nx ρ) h else none
  | k + 1, i, ρ, h => match itemI h i it with
    | none => none
    | some x => bnd (f x ρ h) fun fl h1 => match fl with
      | .nx ρ1 => forL f it k (i + 1) ρ1 h1
      | .bk ρ1 => ret (.nx ρ1) h1
      | .rt v => ret (.rt v) h1
def whL (f : En → MHp → O F) (ρ : En) (h : MHp) : O F := match f ρ h with
  | some (.ok (.nx ρ1) h1) => whL f ρ1 h1
  | some (.ok (.bk ρ1) h1) => some (.ok (.nx ρ1) h1)
  | r => r
partial_fixpoint
/-- at a turn's end: the killed names forgotten, the garbage above n dropped -/
def tidy (n : Nat) (kill : List Nat) (r : O F) : O F := match r with
  | some (.ok (.nx ρ) h) => let p := gcE n (killE ρ kill) h; some (.ok (.nx p.1) p.2)
  | r => r
/-- a truth -/
def asB (v : MV) (h : MHp) : O Bool := match v with | .bl b => ret b h | _ => none
@[simp] theorem asB_bl (b : Bool) (h : MHp) : asB (.bl b) h = ret b h := rfl
section
variable (C : Ora)
mutual
def evE (ρ : En) : E → MHp → O MV
  | .non, h => ret .non h
  | .bl b, h => ret (.bl b) h
  | .int i, h => ret (.int i) h
  | .str s, h => ret (.str s) h
  | .var i, h => (match ρ[i]? with | some (some v) => ret v h | _ => none)
  | .glb _ s, h => ret (.str s) h
  | .bin op a b, h => bnd (evE ρ a h) fun x h1 => bnd (evE ρ b h1) fun y h2 => gcR h.length (binV op x y h2)
  | .neg a, h => bnd (evE ρ a h) fun x h1 => (match x with | .int i => ret (.int (-i)) h1 | _ => none)
  | .not a, h => bnd (evE ρ a h) fun x h1 => bnd (asB x h1) fun b h2 => ret (.bl (!b)) h2
  | .and es, h => evAnd ρ es h
  | .or es, h => evOr ρ es h
  | .cmp op a b, h => bnd (evE ρ a h) fun x h1 => bnd (evE ρ b h1) fun y h2 => (match cmpV op x y h2 with | some b => gcR h.length (ret (.bl b) h2) | none => none)
  | .chn a c, h => bnd (evE ρ a h) fun x h1 => gcR h.length (evCh ρ c x h1)
  | .ite c a b, h => bnd (evE ρ c h) fun x h1 => bnd (asB x h1) fun t h2 => if t then evE ρ a h2 else evE ρ b h2
  | .tup es, h => bnd (evEs ρ es h) fun vs h1 => if vs.length ≤ big then ret (.tup vs) h1 else none
  | .lst es, h => bnd (evEs ρ es h) fun vs h1 => if vs.length ≤ big then new (.lst vs) h1 else none
  | .call f es, h => bnd (evEs ρ es h) fun vs h1 => gcR h.length (C f vs h1)
  | .bi b es, h => bnd (evEs ρ es h) fun vs h1 => gcR h.length (biV b vs h1)
  | .isi a t, h => bnd (evE ρ a h) fun x h1 => (match tyV h1 x with | some u => gcR h.length (ret (.bl (isiV u t)) h1) | none => none)
  | .meth m o es, h => bnd (evE ρ o h) fun x h1 => if rcvOk m x h1 then bnd (evEs ρ es h1) fun vs h2 => gcR h.length (mtV m x vs h2) else none
  | .idx a i, h => bnd (evE ρ a h) fun x h1 => bnd (evE ρ i h1) fun y h2 => gcR h.length (idxV x y h2)
  | .slc a lo hi, h => bnd (evE ρ a h) fun x h1 => bnd (evO ρ lo h1) fun l h2 => bnd (evO ρ hi h2) fun u h3 => gcR h.length (slcV x l u h3)
  | .comp elt t it c, h => bnd (evI ρ it h) fun its h1 => bnd (compL (fun x h => match bindT t x ρ with
      | none => none
      | some ρ1 => noEx (bnd (evC ρ1 c h) fun b h2 => if b then bnd (evE ρ1 elt h2) fun y h3 => ret (some y) h3 else ret none h2)) its (countI its) 0 h1) fun ys h2 => if ys.length ≤ big then gcR h.length (new (.lst ys) h2) else none
def evAnd (ρ : En) : Es → MHp → O MV
  | .nil, _ => none
  | .cons e es, h => match es with
    | .nil => evE ρ e h
    | .cons e2 es2 => bnd (evE ρ e h) fun x h1 => bnd (asB x h1) fun b h2 => if b then evAnd ρ (.cons e2 es2) h2 else ret (.bl false) h2
def evOr (ρ : En) : Es → MHp → O MV
  | .nil, _ => none
  | .cons e es, h => match es with
    | .nil => evE ρ e h
    | .cons e2 es2 => bnd (evE ρ e h) fun x h1 => bnd (asB x h1) fun b h2 => if b then ret (.bl true) h2 else evOr ρ (.cons e2 es2) h2
def evCh (ρ : En) : Ch → MV → MHp → O MV
  | .one op b, x, h => bnd (evE ρ b h) fun y h1 => (match cmpV op x y h1 with | some r => ret (.bl r) h1 | none => none)
  | .more op b r, x, h => bnd (evE ρ b h) fun y h1 => (match cmpV op x y h1 with | some true => evCh ρ r y h1 | some false => ret (.bl false) h1 | none => none)
def evEs (ρ : En) : Es → MHp → O (List MV)
  | .nil, h => ret [] h
  | .cons e es, h => bnd (evE ρ e h) fun v h1 => bnd (evEs ρ es h1) fun vs h2 => ret (v :: vs) h2
def evO (ρ : En) : Eo → MHp → O (Option Int)
  | .none, h => ret none h
  | .some e, h => bnd (evE ρ e h) fun v h1 => (match v with | .int i => ret (some i) h1 | _ => none)
def evC (ρ : En) : Eo → MHp → O Bool
  | .none, h => ret true h
  | .some e, h => bnd (evE ρ e h) fun v h1 => asB v h1
def evI (ρ : En) : Ik → MHp → O Items
  | .val e, h => bnd (evE ρ e h) fun v h1 => bnd (srcOf h.length v h1) fun s h2 => ret (.one s.1 s.2) h2
  | .rng1 a, h => bnd (evE ρ a h) fun v h1 => (match v with | .int j => if smallI j then ret (.one (.vals (rngL 0 j.toNat)) j.toNat) h1 else none | _ => none)
  | .rng2 a b, h => bnd (evE ρ a h) fun v h1 => bnd (evE ρ b h1) fun w h2 => (match v, w with
    | .int i, .int j => if smallI i && smallI j then ret (.one (.vals (rngL i (j - i).toNat)) (j - i).toNat) h2 else none | _, _ => none)
  | .rng3 a b c, h => bnd (evE ρ a h) fun v h1 => bnd (evE ρ b h1) fun w h2 => bnd (evE ρ c h2) fun u h3 => (match v, w, u with
    | .int i, .int j, .int c => (match rngN i j c with | some n => ret (.one (.vals (rngC i c n)) n) h3 | none => none)
    | _, _, _ => none)
  | .enum e, h => bnd (evE ρ e h) fun v h1 => if isL v then bnd (srcOf h.length v h1) fun s h2 => ret (.enum s.1 s.2) h2 else none
  | .zip a b, h => bnd (evE ρ a h) fun v h1 => bnd (evE ρ b h1) fun w h2 => if isL v && isL w then (match elems h2 v, elems h2 w with
    | some xs, some ys => ret (.zip (srcL v) (srcL w) (min xs.length ys.length)) h2
    | _, _ => none) else none
  | .rev e, h => bnd (evE ρ e h) fun v h1 => if isL v then bnd (srcOf h.length v h1) fun s h2 => ret (.rev s.1 s.2) h2 else none
  | .revr a b, h => bnd (evE ρ a h) fun v h1 => bnd (evE ρ b h1) fun w h2 => (match v, w with
    | .int i, .int j => if smallI i && smallI j then ret (.one (.vals (rngL i (j - i).toNat).reverse) (j - i).toNat) h2 else none | _, _ => none)
end
mutual
def evS : S → En → MHp → O F
  | .set i e, ρ, h => bnd (evE C ρ e h) fun v h1 => ret (.nx (ρ.set i (some v))) h1
  | .unp is e, ρ, h => bnd (evE C ρ e h) fun v h1 => (match bindT (.tup is) v ρ with | some ρ1 => ret (.nx ρ1) h1 | none => none)
  | .sub o i e, ρ, h => bnd (evE C ρ e h) fun v h1 => bnd (evE C ρ o h1) fun x h2 => bnd (evE C ρ i h2) fun y h3 => (match subV x y v h3 with | some h4 => ret (.nx ρ) h4 | none => none)
  | .aug i op e, ρ, h => (match ρ[i]? with
    | some (some (.int a)) => bnd (evE C ρ e h) fun v h1 => (match op, v with
      | .add, .int b => ret (.nx (ρ.set i (some (.int (a + b))))) h1
      | .sub, .int b => ret (.nx (ρ.set i (some (.int (a - b))))) h1
      | _, _ => none)
    | _ => none)
  | .expr e, ρ, h => bnd (evE C ρ e h) fun _ h1 => let p := gc h.length .non h1; ret (.nx ρ) p.2
  | .ret e, ρ, h => bnd (evE C ρ e h) fun v h1 => ret (.rt v) h1
  | .pass, ρ, h => ret (.nx ρ) h
  | .brk, ρ, h => ret (.bk ρ) h
  | .iff c a b, ρ, h => bnd (evE C ρ c h) fun v h1 => bnd (asB v h1) fun t h2 => if t then evSs a ρ h2 else evSs b ρ h2
  | .par i j a b, ρ, h => bnd (evE C ρ a h) fun v h1 => bnd (evE C ρ b h1) fun w h2 => ret (.nx ((ρ.set i (some v)).set j (some w))) h2
  | .fr t it b kill, ρ, h => bnd (evI C ρ it h) fun its h1 => forL (fun x ρ h => match bindT t x ρ with
      | none => none
      | some ρ1 => tidy h1.length kill (evSs b ρ1 h)) its (countI its) 0 ρ h1
  | .wh c b kill, ρ, h => whL (fun ρ' h' => bnd (evE C ρ' c h') fun v h1 => bnd (asB v h1) fun t h2 => if t then tidy h.length kill (evSs b ρ' h2) else ret (.bk ρ') h2) ρ h
  | .rse c e, ρ, h => bnd (evE C ρ e h) fun _ h1 => some (.ex c h1)
def evSs : Ss → En → MHp → O F
  | .nil, ρ, h => ret (.nx ρ) h
  | .cons s ss, ρ, h => bnd (evS s ρ h) fun f h1 => (match f with | .nx ρ1 => evSs ss ρ1 h1 | f => ret f h1)
end
end
structure Fd where
  n : Nat
  slots : Nat
  body : Ss
def env0 (fd : Fd) (vs : List MV) : En := vs.map some ++ List.replicate (fd.slots - vs.length) none
def runF (C : Ora) (fd : Fd) (vs : List MV) (h : MHp) : O MV :=
  if vs.length = fd.n then
    match evSs C fd.body (env0 fd vs) h with
    | some (.ok (.nx _) h1) => gcR h.length (ret .non h1)
    | some (.ok (.rt v) h1) => gcR h.length (ret v h1)
    | some (.ok (.bk _) _) => none
    | some (.ex c h1) => some (.ex c h1)
    | none => none
  else none
def callT : List (String × Fd) → Ora
  | [] => fun _ _ _ => none
  | (f, fd) :: rest => fun g vs h => if g = f then runF (callT rest) fd vs h else callT rest g vs h
end MP
/-! MP2: how my values and heaps lie in the layer's abstract heap; garbage. -/
namespace MP
open PySem PySem.Spec PyProof.Rows L2
abbrev AH := L2.Hp
def ofS (s : List Nat) : Str := ⟨s.toArray⟩
/-- a list that stays as it is: locked, or an object of the module -/
def SqF (K : PySem.W.Frag) (H : AH) (a : Addr) (xs : List V) : Prop := SqL K H a xs ∧ ∀ H' : AH, (∀ b o, H b = some o → ¬ Mut (some o) → H' b = some o) → SqL K H' a xs
mutual
inductive RM (K : PySem.W.Frag) (μ : List Addr) (H : AH) : MV → V → Prop
  | non : RM K μ H .non .non
  | bl (b : Bool) : RM K μ H (.bl b) (.bl b)
  | int (i : Int) : RM K μ H (.int i) (.int i)
  | str (s : List Nat) : RM K μ H (.str s) (.str (ofS s))
  | tup {xs : List MV} {vs : List V} {a : Addr} : H a = some (.tup vs) → RMs K μ H xs vs → RM K μ H (.tup xs) (.ref a)
  | rol {xs : List MV} {vs : List V} {a : Addr} : SqF K H a vs → RMs K μ H xs vs → RM K μ H (.rol xs) (.ref a)
  | ref {n : Nat} {a : Addr} : μ[n]? = some a → RM K μ H (.ref n) (.ref a)
inductive RMs (K : PySem.W.Frag) (μ : List Addr) (H : AH) : List MV → List V → Prop
  | nil : RMs K μ H [] []
  | cons {x : MV} {xs : List MV} {v : V} {vs : List V} : RM K μ H x v → RMs K μ H xs vs → RMs K μ H (x :: xs) (v :: vs)
end
inductive RO (K : PySem.W.Frag) (μ : List Addr) (H : AH) : MO → Addr → Prop
  | lst {xs : List MV} {vs : List V} {a : Addr} : H a = some (.lst vs) → RMs K μ H xs vs → RO K μ H (.lst xs) a
structure RH (K : PySem.W.Frag) (μ : List Addr) (H : AH) (h : MHp) : Prop where
  len : μ.length = h.length
  nd : μ.Nodup
  at_ : ∀ (n : Nat) (o : MO) (a : Addr), h[n]? = some o → μ[n]? = some a → RO K μ H o a
structure Gr (μ μ' : List Addr) (H H' : AH) : Prop where
  pre : μ <+: μ'
  fr : ∀ a o, H a = some o → a ∉ μ → H' a = some o
  fresh : ∀ a ∈ μ', a ∈ μ ∨ H a = none
  tp : ∀ a o, H a = some o → ¬ Mut (some o) → H' a = some o
structure RE (K : PySem.W.Frag) (μ : List Addr) (H : AH) (ρ : En) (σ : L2.St) : Prop where
  len : ρ.length = σ.length
  at_ : ∀ (i : Nat) (v : MV), ρ[i]? = some (some v) → ∃ x, σ[i]? = some (some x) ∧ RM K μ H v x

section
variable {K : PySem.W.Frag} {μ μ1 μ2 μ' : List Addr} {H H1 H2 H' : AH} {h h' : MHp}
theorem Gr.refl (μ : List Addr) (H : AH) : Gr μ μ H H := ⟨List.prefix_refl _, fun _ _ e _ => e, fun _ h => .inl h, fun _ _ e _ => e⟩
theorem Gr.trans (a : Gr μ μ1 H H1) (b : Gr μ1 μ2 H1 H2) : Gr μ μ2 H H2 where
  pre := a.pre.trans b.pre
  fr := fun x o e n => b.fr x o (a.fr x o e n) fun hm => (a.fresh x hm).elim n fun z => by rw [e] at z; cases z
  fresh := fun x hm => by
    rcases b.fresh x hm with z | z
    · exact a.fresh x z
    · by_cases hx : x ∈ μ
      · exact .inl hx
      · cases q : H x with
        | none => exact .inr rfl
        | some o => rw [a.fr x o q hx] at z; cases z
  tp := fun x o e n => b.tp x o (a.tp x o e n) n
theorem Gr.at_ (g : Gr μ μ' H H') {n : Nat} {a : Addr} (e : μ[n]? = some a) : μ'[n]? = some a := by
  obtain ⟨t, rfl⟩ := g.pre
  obtain ⟨hn, _⟩ := List.getElem?_eq_some_iff.mp e
  rw [List.getElem?_append_left hn]; exact e
theorem Rd.gr (g : Gr μ μ' H H') {a : Addr} {u : HO} (hu : ¬ Mut (some u)) (r : Rd H a u) : Rd H' a u := by
  rcases r with r | ⟨o, r⟩
  · exact .inl (g.tp a _ r hu)
  · exact .inr ⟨o, g.tp a _ r fun z => z⟩
theorem SqT.gr (g : Gr μ μ' H H') {a : Addr} {xs : List V} (r : SqT K H a xs) : SqT K H' a xs := by
  rcases r with r | r
  · exact .inl (Rd.gr g (fun z => z) r)
  · exact .inr r
mutual
theorem RM.gr (g : Gr μ μ' H H') : ∀ {x : MV} {v : V}, RM K μ H x v → RM K μ' H' x v
  | _, _, .non => .non
  | _, _, .bl b => .bl b
  | _, _, .int i => .int i
  | _, _, .str s => .str s
  | _, _, .tup s r => .tup (g.tp _ _ s fun z => z) (RMs.gr g r)
  | _, _, .rol s r => .rol ⟨s.2 _ g.tp, fun H2 k => s.2 H2 fun b o e n => k b o (g.tp b o e n) n⟩ (RMs.gr g r)
  | _, _, .ref e => .ref (g.at_ e)
theorem RMs.gr (g : Gr μ μ' H H') : ∀ {xs : List MV} {vs : List V}, RMs K μ H xs vs → RMs K μ' H' xs vs
  | _, _, .nil => .nil
  | _, _, .cons r t => .cons (RM.gr g r) (RMs.gr g t)
end
theorem RE.gr (g : Gr μ μ' H H') {ρ : En} {σ : L2.St} (r : RE K μ H ρ σ) : RE K μ' H' ρ σ :=
  ⟨r.len, fun i v e => let ⟨x, e1, r1⟩ := r.at_ i v e; ⟨x, e1, r1.gr g⟩⟩
theorem RMs.length : ∀ {xs : List MV} {vs : List V}, RMs K μ H xs vs → xs.length = vs.length
  | _, _, .nil => rfl
  | _, _, .cons _ t => by rw [List.length_cons, List.length_cons, RMs.length t]
theorem RMs.get : ∀ {xs : List MV} {vs : List V} {i : Nat} {x : MV}, RMs K μ H xs vs → xs[i]? = some x → ∃ v, vs[i]? = some v ∧ RM K μ H x v
  | _, _, _, _, .nil, e => by simp at e
  | _, _, 0, _, .cons r _, e => by simp at e; subst e; exact ⟨_, rfl, r⟩
  | _, _, i + 1, _, .cons _ t, e => by
    obtain ⟨v, h1, h2⟩ := RMs.get (i := i) t (by simpa using e)
    exact ⟨v, by simpa using h1, h2⟩
theorem RMs.append : ∀ {xs ys : List MV} {vs ws : List V}, RMs K μ H xs vs → RMs K μ H ys ws → RMs K μ H (xs ++ ys) (vs ++ ws)
  | _, _, _, _, .nil, s => s
  | _, _, _, _, .cons r t, s => .cons r (RMs.append t s)
theorem RMs.take : ∀ {xs : List MV} {vs : List V} (n : Nat), RMs K μ H xs vs → RMs K μ H (xs.take n) (vs.take n)
  | _, _, 0, _ => .nil
  | _, _, _ + 1, .nil => .nil
  | _, _, n + 1, .cons r t => .cons r (RMs.take n t)
theorem RMs.drop : ∀ {xs : List MV} {vs : List V} (n : Nat), RMs K μ H xs vs → RMs K μ H (xs.drop n) (vs.drop n)
  | _, _, 0, r => r
  | _, _, _ + 1, .nil => .nil
  | _, _, n + 1, .cons _ t => RMs.drop n t
theorem RMs.set {x : MV} {v : V} (r : RM K μ H x v) : ∀ {xs : List MV} {vs : List V} (i : Nat), RMs K μ H xs vs → RMs K μ H (xs.set i x) (vs.set i v)
  | _, _, _, .nil => .nil
  | _, _, 0, .cons _ t => .cons r t
  | _, _, i + 1, .cons q t => .cons q (RMs.set r i t)
theorem RMs.reverse : ∀ {xs : List MV} {vs : List V}, RMs K μ H xs vs → RMs K μ H xs.reverse vs.reverse
  | _, _, .nil => .nil
  | _, _, .cons r t => by rw [List.reverse_cons, List.reverse_cons]; exact (RMs.reverse t).append (.cons r .nil)
theorem RMs.replicate {xs : List MV} {vs : List V} (r : RMs K μ H xs vs) : ∀ n : Nat, RMs K μ H (List.replicate n xs).flatten (List.replicate n vs).flatten
  | 0 => .nil
  | n + 1 => by rw [List.replicate_succ, List.replicate_succ, List.flatten_cons, List.flatten_cons]; exact r.append (RMs.replicate r n)
theorem RMs.of {xs : List MV} {vs : List V} (hl : xs.length = vs.length) (g : ∀ (i : Nat) (x : MV) (v : V), xs[i]? = some x → vs[i]? = some v → RM K μ H x v) : RMs K μ H xs vs := by
  induction xs generalizing vs with
  | nil => cases vs with
    | nil => exact .nil
    | cons => simp at hl
  | cons x xs ih => cases vs with
    | nil => simp at hl
    | cons v vs => exact .cons (g 0 x v rfl rfl) (ih (by simpa using hl) fun i a b e1 e2 => g (i + 1) a b (by simpa using e1) (by simpa using e2))

/-- a new object is laid and joins my heap -/
theorem Gr.new {p : Addr} {o : HO} (hp : H p = none) : Gr μ (μ ++ [p]) H (upd H p o) where
  pre := List.prefix_append _ _
  fr := fun a u e _ => by rw [upd_ne (ne_of_none e hp)]; exact e
  fresh := fun a hm => by
    rcases List.mem_append.mp hm with z | z
    · exact .inl z
    · rw [List.mem_singleton.mp z]; exact .inr hp
  tp := fun a u e _ => by rw [upd_ne (ne_of_none e hp)]; exact e
/-- .. or does not -/
theorem Gr.new0 {p : Addr} {o : HO} (hp : H p = none) : Gr μ μ H (upd H p o) :=
  ⟨List.prefix_refl _, fun a u e _ => by rw [upd_ne (ne_of_none e hp)]; exact e, fun _ h => .inl h, fun a u e _ => by rw [upd_ne (ne_of_none e hp)]; exact e⟩
theorem RO.gr0 (g : Gr μ μ' H H') {o : MO} {a : Addr} (keep : ∀ u, H a = some u → H' a = some u) (r : RO K μ H o a) : RO K μ' H' o a := by
  cases r with
  | lst e r => exact .lst (keep _ e) (r.gr g)
end
end MP
/-! MP3: dropping garbage is sound; what is wanted behind an expression, a statement. -/
namespace MP
open PySem PySem.Spec PyProof.Rows L2
section
variable {K : PySem.W.Frag} {μ μ1 μ2 μ' ν : List Addr} {H H1 H2 H' : AH} {h h' : MHp}
mutual
theorem RM.renOk {f : Nat → Nat} {S : Nat → Prop} (key : ∀ r a, S r → μ[r]? = some a → ν[f r]? = some a) : ∀ {x : MV} {v : V}, (∀ r ∈ x.refs, S r) → RM K μ H x v → RM K ν H (x.ren f) v
  | _, _, _, .non => .non
  | _, _, _, .bl b => .bl b
  | _, _, _, .int i => .int i
  | _, _, _, .str s => .str s
  | _, _, hs, .tup s r => .tup s (RMs.renOk key (fun r hr => hs r hr) r)
  | _, _, hs, .rol s r => .rol s (RMs.renOk key (fun r hr => hs r hr) r)
  | _, _, hs, .ref e => .ref (key _ _ (hs _ (by simp [MV.refs])) e)
theorem RMs.renOk {f : Nat → Nat} {S : Nat → Prop} (key : ∀ r a, S r → μ[r]? = some a → ν[f r]? = some a) : ∀ {xs : List MV} {vs : List V}, (∀ r ∈ refsL xs, S r) → RMs K μ H xs vs → RMs K ν H (renL f xs) vs
  | _, _, _, .nil => .nil
  | _, _, hs, .cons r t => .cons (RM.renOk key (fun q hq => hs q (by simp only [refsL]; exact List.mem_append_left _ hq)) r) (RMs.renOk key (fun q hq => hs q (by simp only [refsL]; exact List.mem_append_right _ hq)) t)
end
mutual
theorem RM.loOk {n : Nat} (key : ∀ r a, r < n → μ[r]? = some a → ν[r]? = some a) : ∀ {x : MV} {v : V}, x.lo n = true → RM K μ H x v → RM K ν H x v
  | _, _, _, .non => .non
  | _, _, _, .bl b => .bl b
  | _, _, _, .int i => .int i
  | _, _, _, .str s => .str s
  | _, _, hs, .tup s r => .tup s (RMs.loOk key hs r)
  | _, _, hs, .rol s r => .rol s (RMs.loOk key hs r)
  | _, _, hs, .ref e => .ref (key _ _ (of_decide_eq_true hs) e)
theorem RMs.loOk {n : Nat} (key : ∀ r a, r < n → μ[r]? = some a → ν[r]? = some a) : ∀ {xs : List MV} {vs : List V}, loL n xs = true → RMs K μ H xs vs → RMs K ν H xs vs
  | _, _, _, .nil => .nil
  | _, _, hs, .cons r t => by
    unfold loL at hs
    rw [Bool.and_eq_true] at hs
    exact .cons (RM.loOk key hs.1 r) (RMs.loOk key hs.2 t)
end
theorem loH_get {n : Nat} : ∀ {h : MHp} {i : Nat} {o : MO}, loH n h = true → h[i]? = some o → o.lo n = true
  | [], _, _, _, e => by simp at e
  | o :: h, 0, _, hl, e => by
    unfold loH at hl
    rw [Bool.and_eq_true] at hl
    simp at e; subst e; exact hl.1
  | o :: h, i + 1, _, hl, e => by
    unfold loH at hl
    rw [Bool.and_eq_true] at hl
    exact loH_get hl.2 (by simpa using e)
theorem objs_get : ∀ {idx : List Nat} {os : List MO}, objs h idx = some os → os.length = idx.length ∧ ∀ (j r : Nat), idx[j]? = some r → os[j]? = h[r]?
  | [], os, e => by
    cases (show some [] = some os from e)
    exact ⟨rfl, fun j r q => by simp at q⟩
  | r :: rs, os, e => by
    unfold objs at e
    cases h1 : h[r]? with
    | none => rw [h1] at e; cases e
    | some o =>
      rw [h1] at e
      cases h2 : objs h rs with
      | none => rw [h2] at e; cases e
      | some os' =>
        rw [h2] at e
        cases (show some (o :: os') = some os from e)
        obtain ⟨l, g⟩ := objs_get h2
        refine ⟨by rw [List.length_cons, List.length_cons, l], fun j q hq => ?_⟩
        cases j with
        | zero => simp at hq; subst hq; simp [h1]
        | succ j => simpa using g j q (by simpa using hq)
theorem shut_ok {n : Nat} {idx rs : List Nat} (h : shut n idx rs = true) : ∀ r ∈ rs, r < n ∨ r ∈ idx := fun r hr => by
  have q := List.all_eq_true.mp h r hr
  rw [Bool.or_eq_true, decide_eq_true_eq, decide_eq_true_eq] at q
  exact q
/-- behind plan -/
theorem plan_ok {vs : List MV} {n : Nat} {idx : List Nat} {os : List MO} (e : plan n vs h' = some (idx, os)) (g : Gr μ μ' H H') (hn : n = μ.length) (R : RH K μ' H' h') :
    ∃ ν, Gr μ ν H H' ∧ RH K ν H' (h'.take n ++ os.map (·.ren (rn n idx))) ∧ (∀ r ∈ refsL vs, r < n ∨ r ∈ idx) ∧
      ∀ r a, (r < n ∨ r ∈ idx) → μ'[r]? = some a → ν[rn n idx r]? = some a := by
  unfold plan at e
  split at e
  case isFalse => cases e
  rename_i hlo
  simp only at e
  split at e
  case h_2 => cases e
  rename_i os' ho
  split at e
  case isFalse => cases e
  rename_i hc
  cases e
  simp only [Bool.and_eq_true, decide_eq_true_eq] at hc
  obtain ⟨⟨⟨hv, hos⟩, hnd⟩, hge⟩ := hc
  generalize hidx : reach n h' 6 (news n (refsL vs) []) = idx at *
  obtain ⟨hl, hg⟩ := objs_get ho
  have hge : ∀ r ∈ idx, n ≤ r := fun r hr => of_decide_eq_true (List.all_eq_true.mp hge r hr)
  obtain ⟨t, rfl⟩ := g.pre
  subst hn
  have hlt : ∀ r ∈ idx, r < h'.length := fun r hr => by
    obtain ⟨j, hj, e⟩ := List.mem_iff_getElem.mp hr
    have q := hg j r (by rw [List.getElem?_eq_getElem hj, e])
    have q2 : j < os.length := by omega
    rw [List.getElem?_eq_getElem q2] at q
    exact (List.getElem?_eq_some_iff.mp q.symm).1
  have hat : ∀ r ∈ idx, ∃ a, (μ ++ t)[r]? = some a := fun r hr => by
    have := hlt r hr
    rw [← R.len] at this
    exact ⟨_, List.getElem?_eq_getElem this⟩
  have hml : μ.length ≤ h'.length := by rw [← R.len, List.length_append]; omega
  have idxAt : ∀ (j r : Nat), idx[j]? = some r → (μ ++ idx.map fun r => ((μ ++ t)[r]?).getD 0)[μ.length + j]? = (μ ++ t)[r]? := fun j r e => by
    rw [List.getElem?_append_right (by omega), Nat.add_sub_cancel_left, List.getElem?_map, e]
    obtain ⟨a, ea⟩ := hat r (List.mem_of_getElem? e)
    show some (((μ ++ t)[r]?).getD 0) = _
    rw [ea]; rfl
  have key : ∀ r a, (r < μ.length ∨ r ∈ idx) → (μ ++ t)[r]? = some a → (μ ++ idx.map fun r => ((μ ++ t)[r]?).getD 0)[rn μ.length idx r]? = some a := fun r a hr e => by
    unfold rn
    by_cases q : r < μ.length
    · rw [if_pos q, List.getElem?_append_left q]
      rw [List.getElem?_append_left q] at e
      exact e
    · rw [if_neg q]
      have hi : r ∈ idx := hr.resolve_left q
      have hj : idx.idxOf r < idx.length := List.idxOf_lt_length_of_mem hi
      rw [idxAt (idx.idxOf r) r (by rw [List.getElem?_eq_getElem hj]; simp)]
      exact e
  refine ⟨μ ++ idx.map fun r => ((μ ++ t)[r]?).getD 0, ⟨List.prefix_append _ _, g.fr, fun a hm => ?_, g.tp⟩, ⟨?_, ?_, fun i o a ei ea => ?_⟩, shut_ok hv, key⟩
  · rcases List.mem_append.mp hm with z | z
    · exact .inl z
    · obtain ⟨r, hr, rfl⟩ := List.mem_map.mp z
      obtain ⟨a, ea⟩ := hat r hr
      rw [ea]
      exact g.fresh a (List.mem_of_getElem? ea)
  · rw [List.length_append, List.length_append, List.length_map, List.length_map, List.length_take, hl]; omega
  · refine List.nodup_append.mpr ⟨(List.nodup_append.mp R.nd).1, ?_, ?_⟩
    · rw [List.nodup_iff_pairwise_ne, List.pairwise_map]
      refine List.Pairwise.imp_of_mem ?_ (List.nodup_iff_pairwise_ne.mp hnd)
      intro r q hr hq ne z
      obtain ⟨a, ea⟩ := hat r hr
      obtain ⟨b, eb⟩ := hat q hq
      rw [ea, eb] at z
      have z' : a = b := z
      subst z'
      obtain ⟨l1, e1⟩ := List.getElem?_eq_some_iff.mp ea
      obtain ⟨l2, e2⟩ := List.getElem?_eq_some_iff.mp eb
      exact ne ((List.getElem_inj R.nd).mp (e1.trans e2.symm))
    · intro a ha b hb z
      subst z
      obtain ⟨r, hr, e⟩ := List.mem_map.mp hb
      obtain ⟨b, eb⟩ := hat r hr
      rw [eb] at e
      have e' : b = a := e
      subst e'
      have hrn := hge r hr
      rw [List.getElem?_append_right hrn] at eb
      exact (List.nodup_append.mp R.nd).2.2 b ha b (List.mem_of_getElem? eb) rfl
  · by_cases hi : i < μ.length
    · rw [List.getElem?_append_left hi] at ea
      rw [List.getElem?_append_left (by rw [List.length_take]; omega), List.getElem?_take_of_lt hi] at ei
      have lo := loH_get (i := i) hlo (by rw [List.getElem?_take_of_lt hi]; exact ei)
      have r0 := R.at_ i o a ei (by rw [List.getElem?_append_left hi]; exact ea)
      cases r0 with
      | lst e r =>
        refine .lst e (RMs.loOk (n := μ.length) (fun r a hr e => ?_) lo r)
        rw [List.getElem?_append_left hr]
        rw [List.getElem?_append_left hr] at e
        exact e
    · have htl : (h'.take μ.length).length = μ.length := by rw [List.length_take]; omega
      rw [List.getElem?_append_right (by omega), htl, List.getElem?_map] at ei
      generalize hj : i - μ.length = j at *
      have hij : i = μ.length + j := by omega
      subst hij
      cases hq : idx[j]? with
      | none =>
        have : idx.length ≤ j := List.getElem?_eq_none_iff.mp hq
        rw [List.getElem?_eq_none (by omega)] at ei
        cases ei
      | some r =>
        rw [idxAt j r hq] at ea
        have eo := hg j r hq
        cases hos' : os[j]? with
        | none => rw [hos'] at ei; cases ei
        | some o0 =>
          rw [hos'] at ei eo
          cases (show some (o0.ren (rn μ.length idx)) = some o from ei)
          have r0 := R.at_ r o0 a eo.symm ea
          have sh := shut_ok (List.all_eq_true.mp hos o0 (List.mem_of_getElem? hos'))
          cases r0 with
          | lst e r => exact .lst e (RMs.renOk key sh r)
theorem gc_ok {n : Nat} {v : MV} {x : V} (g : Gr μ μ' H H') (hn : n = μ.length) (R : RH K μ' H' h') (r : RM K μ' H' v x) :
    ∃ ν, Gr μ ν H H' ∧ RH K ν H' (gc n v h').2 ∧ RM K ν H' (gc n v h').1 x := by
  unfold gc
  split
  · exact ⟨μ', g, R, r⟩
  · split
    · rename_i idx os e
      obtain ⟨ν, g1, R1, hs, key⟩ := plan_ok e g hn R
      refine ⟨ν, g1, R1, RM.renOk key (fun r hr => hs r ?_) r⟩
      simp only [refsL, List.append_nil]; exact hr
    · exact ⟨μ', g, R, r⟩
theorem mem_refsL {ρ : En} {i : Nat} {v : MV} (e : ρ[i]? = some (some v)) : ∀ r ∈ v.refs, r ∈ refsL (vals ρ) := by
  intro r hr
  have hm : v ∈ vals ρ := List.mem_filterMap.mpr ⟨some v, List.mem_of_getElem? e, rfl⟩
  generalize vals ρ = l at hm
  induction l with
  | nil => simp at hm
  | cons y l ih =>
    simp only [refsL]
    rcases List.mem_cons.mp hm with z | z
    · subst z; exact List.mem_append_left _ hr
    · exact List.mem_append_right _ (ih z)
theorem gcE_ok {n : Nat} {ρ : En} {σ : L2.St} (g : Gr μ μ' H H') (hn : n = μ.length) (R : RH K μ' H' h') (r : RE K μ' H' ρ σ) :
    ∃ ν, Gr μ ν H H' ∧ RH K ν H' (gcE n ρ h').2 ∧ RE K ν H' (gcE n ρ h').1 σ := by
  unfold gcE
  split
  · exact ⟨μ', g, R, r⟩
  · split
    · rename_i idx os e
      obtain ⟨ν, g1, R1, hs, key⟩ := plan_ok e g hn R
      refine ⟨ν, g1, R1, ⟨by rw [List.length_map]; exact r.len, fun i v e => ?_⟩⟩
      rw [List.getElem?_map] at e
      cases q : ρ[i]? with
      | none => rw [q] at e; cases e
      | some o =>
        rw [q] at e
        cases o with
        | none => cases e
        | some u =>
          cases (show some (some (u.ren (rn n idx))) = some (some v) from e)
          obtain ⟨x, ex, rx⟩ := r.at_ i u q
          exact ⟨x, ex, RM.renOk key (fun r hr => hs r (mem_refsL q r hr)) rx⟩
    · exact ⟨μ', g, R, r⟩
theorem RE.set {ρ : En} {σ : L2.St} (r : RE K μ H ρ σ) {v : MV} {x : V} (rv : RM K μ H v x) (i : Nat) : RE K μ H (ρ.set i (some v)) (σ.set i (some x)) := by
  refine ⟨by rw [List.length_set, List.length_set]; exact r.len, fun j u e => ?_⟩
  by_cases hj : i = j
  · subst hj
    have hl : i < ρ.length := by
      obtain ⟨l, _⟩ := List.getElem?_eq_some_iff.mp e
      simpa using l
    rw [List.getElem?_set_self hl] at e
    cases e
    exact ⟨x, List.getElem?_set_self (by rw [← r.len]; exact hl), rv⟩
  · rw [List.getElem?_set_ne hj] at e
    rw [List.getElem?_set_ne hj]
    exact r.at_ j u e
theorem RE.wipe1 {ρ : En} {σ : L2.St} (r : RE K μ H ρ σ) (i : Nat) : RE K μ H (ρ.set i none) σ := by
  refine ⟨by rw [List.length_set]; exact r.len, fun j u e => ?_⟩
  by_cases hj : i = j
  · subst hj
    have hl : i < ρ.length := by
      obtain ⟨l, _⟩ := List.getElem?_eq_some_iff.mp e
      simpa using l
    rw [List.getElem?_set_self hl] at e
    cases e
  · rw [List.getElem?_set_ne hj] at e
    exact r.at_ j u e
theorem RE.kill {σ : L2.St} : ∀ (ks : List Nat) {ρ : En}, RE K μ H ρ σ → RE K μ H (killE ρ ks) σ
  | [], _, r => r
  | k :: ks, _, r => RE.kill ks (r.wipe1 k)
end

/-! ### what is wanted behind -/
def Pst {α β : Type} (K : PySem.W.Frag) (μ : List Addr) (H : AH) (EX : String → AH → Prop) (Rl : List Addr → AH → α → β → Prop) (o : O α) (Q : β → AH → Prop) : Prop :=
  match o with
  | some (.ok r h') => ∀ μ' H' z, Gr μ μ' H H' → RH K μ' H' h' → Rl μ' H' r z → Q z H'
  | some (.ex c h') => ∀ μ' H', Gr μ μ' H H' → RH K μ' H' h' → EX c H'
  | none => False
def SPst (K : PySem.W.Frag) (μ : List Addr) (H : AH) (EX : String → AH → Prop) (o : O F) (D : Ends) : Prop :=
  match o with
  | some (.ok (.nx ρ) h') => ∀ μ' H' σ', Gr μ μ' H H' → RH K μ' H' h' → RE K μ' H' ρ σ' → D.nx σ' H'
  | some (.ok (.bk ρ) h') => ∀ μ' H' σ', Gr μ μ' H H' → RH K μ' H' h' → RE K μ' H' ρ σ' → D.bk σ' H'
  | some (.ok (.rt v) h') => ∀ μ' H' z, Gr μ μ' H H' → RH K μ' H' h' → RM K μ' H' v z → D.rt z H'
  | some (.ex c h') => ∀ μ' H', Gr μ μ' H H' → RH K μ' H' h' → EX c H'
  | none => False
section
variable {K : PySem.W.Frag} {μ μ1 μ2 μ' ν : List Addr} {H H1 H2 H' : AH} {h h' : MHp} {EX : String → AH → Prop}
theorem Pst.gr {α β : Type} {Rl : List Addr → AH → α → β → Prop} {o : O α} {Q : β → AH → Prop} (g : Gr μ μ1 H H1) (p : Pst K μ H EX Rl o Q) : Pst K μ1 H1 EX Rl o Q := by
  unfold Pst at *
  split at p
  · exact fun μ' H' z g' R r => p μ' H' z (g.trans g') R r
  · exact fun μ' H' g' R => p μ' H' (g.trans g') R
  · exact p
theorem SPst.gr {o : O F} {D : Ends} (g : Gr μ μ1 H H1) (p : SPst K μ H EX o D) : SPst K μ1 H1 EX o D := by
  unfold SPst at *
  split at p
  · exact fun μ' H' z g' R r => p μ' H' z (g.trans g') R r
  · exact fun μ' H' z g' R r => p μ' H' z (g.trans g') R r
  · exact fun μ' H' z g' R r => p μ' H' z (g.trans g') R r
  · exact fun μ' H' g' R => p μ' H' (g.trans g') R
  · exact p
/-- two in a row -/
theorem Pst.bind {α β γ δ : Type} {R1 : List Addr → AH → α → γ → Prop} {R2 : List Addr → AH → β → δ → Prop} {o : O α} {f : α → MHp → O β} {Q : δ → AH → Prop} (p : Pst K μ H EX R2 (bnd o f) Q) :
    Pst K μ H EX R1 o fun z H1 => ∃ μ1 h1 r, Gr μ μ1 H H1 ∧ RH K μ1 H1 h1 ∧ R1 μ1 H1 r z ∧ Pst K μ H EX R2 (f r h1) Q := by
  unfold Pst at *
  cases o with
  | none => exact p
  | some q => cases q with
    | ok a h => exact fun μ' H' z g R r => ⟨μ', h, a, g, R, r, p⟩
    | ex c h => exact p
theorem SPst.bind {α γ : Type} {R1 : List Addr → AH → α → γ → Prop} {o : O α} {f : α → MHp → O F} {D : Ends} (p : SPst K μ H EX (bnd o f) D) :
    Pst K μ H EX R1 o fun z H1 => ∃ μ1 h1 r, Gr μ μ1 H H1 ∧ RH K μ1 H1 h1 ∧ R1 μ1 H1 r z ∧ SPst K μ H EX (f r h1) D := by
  unfold Pst
  cases o with
  | none => exact p
  | some q => cases q with
    | ok a h => exact fun μ' H' z g R r => ⟨μ', h, a, g, R, r, p⟩
    | ex c h => exact p
theorem Pst.imp {α β : Type} {Rl : List Addr → AH → α → β → Prop} {o : O α} {Q Q' : β → AH → Prop} (p : Pst K μ H EX Rl o Q) (k : ∀ z H', Q z H' → Q' z H') : Pst K μ H EX Rl o Q' := by
  unfold Pst at *
  split at p
  · exact fun μ' H' z g' R r => k _ _ (p μ' H' z g' R r)
  · exact p
  · exact p
/-- the garbage is kept -/
theorem Pst.ungc {n : Nat} {o : O MV} {Q : VK} (p : Pst K μ H EX (RM K) (gcR n o) Q) (hn : n = μ.length) (g : Gr μ μ1 H H1) : Pst K μ1 H1 EX (RM K) o Q := by
  unfold Pst at *
  cases o with
  | none => exact p
  | some q => cases q with
    | ex c h => exact fun μ' H' g' R => p μ' H' (g.trans g') R
    | ok v h =>
      intro μ' H' z g' R r
      obtain ⟨ν, g1, R1, r1⟩ := gc_ok (g.trans g') hn R r
      exact p ν H' z g1 R1 r1
theorem SPst.untidy {n : Nat} {kill : List Nat} {o : O F} {D : Ends} (p : SPst K μ H EX (tidy n kill o) D) (hn : n = μ.length) (g : Gr μ μ1 H H1) : SPst K μ1 H1 EX o D := by
  unfold SPst at *
  cases o with
  | none => exact p
  | some q => cases q with
    | ex c h => exact fun μ' H' g' R => p μ' H' (g.trans g') R
    | ok f h =>
      cases f with
      | rt v => exact fun μ' H' z g' R r => p μ' H' z (g.trans g') R r
      | bk ρ => exact fun μ' H' z g' R r => p μ' H' z (g.trans g') R r
      | nx ρ =>
        intro μ' H' σ' g' R r
        obtain ⟨ν, g1, R1, r1⟩ := gcE_ok (g.trans g') hn R (r.kill kill)
        exact p ν H' σ' g1 R1 r1
end
end MP
/-! MP4: the operators by values. -/
namespace MP
open PySem PySem.Spec PyProof.Rows L2
section
variable {K : PySem.W.Frag} {μ μ1 μ2 μ' ν : List Addr} {H H1 H2 H' : AH} {h h' : MHp} {EX : String → AH → Prop}
theorem Pst.ret {α β : Type} {Rl : List Addr → AH → α → β → Prop} {a : α} {Q : β → AH → Prop} {z : β} (p : Pst K μ H EX Rl (MP.ret a h) Q) (R : RH K μ H h) (r : Rl μ H a z) : Q z H :=
  p μ H z (Gr.refl _ _) R r
theorem Pst.no {α β : Type} {Rl : List Addr → AH → α → β → Prop} {Q : β → AH → Prop} (p : Pst K μ H EX Rl (none : O α) Q) : False := p
theorem big_eq : big = sizeLine := by decide
theorem RH.nofresh (R : RH K μ H h) {p : Addr} (hp : H p = none) : p ∉ μ := fun hm => by
  obtain ⟨n, hn, e⟩ := List.mem_iff_getElem.mp hm
  have hl : n < h.length := by rw [← R.len]; exact hn
  obtain ⟨o, ho⟩ : ∃ o, h[n]? = some o := ⟨_, List.getElem?_eq_getElem hl⟩
  have r := R.at_ n o p ho (by rw [List.getElem?_eq_getElem hn, e])
  cases r with
  | lst q _ => rw [hp] at q; cases q
/-- a new object that my heap does not hold -/
theorem RH.new0 (R : RH K μ H h) {p : Addr} {o : HO} (hp : H p = none) : RH K μ (upd H p o) h :=
  ⟨R.len, R.nd, fun n ob a e1 e2 => (R.at_ n ob a e1 e2).gr0 (Gr.new0 hp) fun u e => by rw [upd_ne (ne_of_none e hp)]; exact e⟩
/-- a new list -/
theorem RH.new {p : Addr} {xs : List MV} {vs : List V} (R : RH K μ H h) (hp : H p = none) (r : RMs K μ H xs vs) : RH K (μ ++ [p]) (upd H p (.lst vs)) (h ++ [.lst xs]) := by
  refine ⟨by rw [List.length_append, List.length_append, R.len]; rfl, List.nodup_append.mpr ⟨R.nd, by simp, fun a ha b hb e => ?_⟩, fun n ob a e1 e2 => ?_⟩
  · rw [List.mem_singleton.mp hb] at e
    subst e
    exact R.nofresh hp ha
  · by_cases hn : n < h.length
    · rw [List.getElem?_append_left hn] at e1
      rw [List.getElem?_append_left (by rw [R.len]; exact hn)] at e2
      exact (R.at_ n ob a e1 e2).gr0 (Gr.new hp) fun u e => by rw [upd_ne (ne_of_none e hp)]; exact e
    · have hl : n = h.length := by
        have := (List.getElem?_eq_some_iff.mp e1).1
        rw [List.length_append, List.length_singleton] at this
        omega
      subst hl
      rw [List.getElem?_append_right (Nat.le_refl _), Nat.sub_self] at e1
      rw [← R.len, List.getElem?_append_right (Nat.le_refl _), Nat.sub_self] at e2
      cases e1
      cases e2
      exact .lst upd_same (r.gr (Gr.new hp))
theorem Pst.new {xs : List MV} {vs : List V} {Q : VK} {p : Addr} (q : Pst K μ H EX (RM K) (MP.new (.lst xs) h) Q) (R : RH K μ H h) (r : RMs K μ H xs vs) (hp : H p = none) : Q (.ref p) (upd H p (.lst vs)) := by
  refine q (μ ++ [p]) _ _ (Gr.new hp) (R.new hp r) (.ref ?_)
  rw [← R.len, List.getElem?_append_right (Nat.le_refl _), Nat.sub_self]; rfl
/-- a new tuple -/
theorem Pst.newT {xs : List MV} {vs : List V} {Q : VK} {p : Addr} (q : Pst K μ H EX (RM K) (MP.ret (.tup xs) h) Q) (R : RH K μ H h) (r : RMs K μ H xs vs) (hp : H p = none) : Q (.ref p) (upd H p (.tup vs)) :=
  q μ _ _ (Gr.new0 hp) (R.new0 hp) (.tup upd_same (r.gr (Gr.new0 hp)))
/-- a list is stored anew -/
theorem RH.set {n : Nat} {a : Addr} {xs : List MV} {vs ws : List V} (R : RH K μ H h) (ha : μ[n]? = some a) (hl : H a = some (.lst ws)) (r : RMs K μ H xs vs) :
    Gr μ μ H (upd H a (.lst vs)) ∧ RH K μ (upd H a (.lst vs)) (h.set n (.lst xs)) := by
  have g : Gr μ μ H (upd H a (.lst vs)) := by
    refine ⟨List.prefix_refl _, fun b o e nb => ?_, fun _ h => .inl h, fun b o e nm => ?_⟩
    · rw [upd_ne]; exact e
      intro z; subst z; exact nb (List.mem_of_getElem? ha)
    · rw [upd_ne]; exact e
      intro z; subst z; rw [hl] at e; cases e; exact nm trivial
  refine ⟨g, by rw [List.length_set]; exact R.len, R.nd, fun m ob b e1 e2 => ?_⟩
  by_cases hm : n = m
  · subst hm
    have hlt : n < h.length := by
      have := (List.getElem?_eq_some_iff.mp e1).1
      simpa using this
    rw [List.getElem?_set_self hlt] at e1
    cases e1
    rw [ha] at e2; cases e2
    exact .lst upd_same (r.gr g)
  · rw [List.getElem?_set_ne hm] at e1
    have hb : b ≠ a := fun z => by
      subst z
      obtain ⟨l1, q1⟩ := List.getElem?_eq_some_iff.mp ha
      obtain ⟨l2, q2⟩ := List.getElem?_eq_some_iff.mp e2
      exact hm ((List.getElem_inj R.nd).mp (q1.trans q2.symm))
    have r0 := R.at_ m ob b e1 e2
    cases r0 with
    | lst e r0 => exact .lst (by rw [upd_ne hb]; exact e) (r0.gr g)
theorem RH.elems {n : Nat} {a : Addr} {xs : List MV} (R : RH K μ H h) (e : elems h (.ref n) = some xs) (ea : μ[n]? = some a) : ∃ vs, H a = some (.lst vs) ∧ RMs K μ H xs vs := by
  have e : (match h[n]? with | some (.lst xs) => some xs | none => none) = some xs := e
  cases q : h[n]? with
  | none => rw [q] at e; cases e
  | some o =>
    rw [q] at e
    cases o with
    | lst ys =>
      cases (show some ys = some xs from e)
      have r := R.at_ n _ a q ea
      cases r with
      | lst e1 r1 => exact ⟨_, e1, r1⟩
/-- what a list holds -/
theorem RM.elems {v : MV} {x : V} {xs : List MV} (R : RH K μ H h) (r : RM K μ H v x) (e : MP.elems h v = some xs) : ∃ a vs, x = .ref a ∧ SqL K H a vs ∧ RMs K μ H xs vs := by
  cases r with
  | ref ea =>
    obtain ⟨vs, q, r⟩ := R.elems e ea
    exact ⟨_, vs, rfl, .inl (.inl q), r⟩
  | rol s r =>
    cases (show some _ = some xs from e)
    exact ⟨_, _, rfl, s.1, r⟩
  | _ => cases e
theorem RM.seqs {v : MV} {x : V} {xs : List MV} (R : RH K μ H h) (r : RM K μ H v x) (e : MP.seqs h v = some xs) : ∃ a vs, x = .ref a ∧ (SqL K H a vs ∨ SqT K H a vs) ∧ RMs K μ H xs vs := by
  cases r with
  | tup s r => 
    cases (show some _ = some xs from e)
    exact ⟨_, _, rfl, .inr (SqT.of s), r⟩
  | ref ea =>
    obtain ⟨a, vs, q, s, r⟩ := RM.elems R (.ref ea) (show MP.elems h _ = some xs from e)
    exact ⟨a, vs, q, .inl s, r⟩
  | rol s r =>
    cases (show some _ = some xs from e)
    exact ⟨_, _, rfl, .inl s.1, r⟩
  | _ => cases e
theorem RMs.nil_iff {xs : List MV} {vs : List V} (r : RMs K μ H xs vs) : vs = [] ↔ xs = [] := by
  cases r <;> simp
end
/-! ### + - * // % ** -/
def opOf : Op2 → Operator
  | .add => .Add | .sub => .Sub | .mul => .Mult | .fdiv => .FloorDiv | .mod => .Mod | .pow => .Pow
def rBin (K : PySem.W.Frag) (EX : String → AH → Prop) (op : Op2) : R2 := fun x y H Q => ∃ μ h u v, RH K μ H h ∧ RM K μ H u x ∧ RM K μ H v y ∧ Pst K μ H EX (RM K) (binV op u v h) Q
theorem foldl_flat : ∀ (n : Nat) (s : Array Nat) (acc : Array Nat), (List.replicate n s).foldl (· ++ ·) acc = acc ++ (List.replicate n s.toList).flatten.toArray
  | 0, s, acc => by simp
  | n + 1, s, acc => by
    rw [List.replicate_succ, List.foldl_cons, foldl_flat n s, List.replicate_succ, List.flatten_cons]
    apply Array.ext'
    simp
theorem op_bin {X : Cx} {EX : String → AH → Prop} (op : Op2) : OpR X (binaryOp (opOf op)) (rBin X.K EX op) := by
  intro pins s σ H x y v u Q I rx ry ⟨μ, h, a, b, R, ra, rb, p⟩
  unfold binV at p
  split at p
  · cases ra; cases rb
    exact op_add pins s σ H _ _ v u Q I rx ry ⟨_, _, rfl, rfl, p.ret R (.int _)⟩
  · cases ra; cases rb
    split at p
    case isFalse => exact p.no.elim
    rename_i hz
    refine op_add_str pins s σ H _ _ v u Q I rx ry ⟨_, _, rfl, rfl, ?_, ?_⟩
    · show (ofS _).cps.size + (ofS _).cps.size ≤ _
      unfold ofS
      rw [List.size_toArray, List.size_toArray, ← big_eq]; exact hz
    · have e : ∀ s t : List Nat, ofS (s ++ t) = ofS s ++ ofS t := fun s t => by
        show Str.mk _ = Str.mk _
        congr 1
        simp [ofS]
      rw [← e]
      exact p.ret R (.str _)
  · cases ra with
    | tup sa ra =>
      cases rb with
      | tup sb rb =>
        split at p
        case isFalse => exact p.no.elim
        rename_i hz
        refine op_catA pins s σ H _ _ v u Q I rx ry ⟨_, _, _, _, rfl, rfl, SqT.of sa, SqT.of sb, ?_, fun e => ?_, fun _ e => ?_, fun _ _ q hq => ?_⟩
        · rw [← ra.length, ← rb.length, ← big_eq]; exact hz
        · have e2 := ra.nil_iff.mp e
          rw [e2, List.nil_append] at p
          exact p.ret R (.tup sb rb)
        · have e2 := rb.nil_iff.mp e
          rw [e2, List.append_nil] at p
          exact p.ret R (.tup sa ra)
        · exact p.newT R (ra.append rb) hq
  · split at p
    case h_2 => exact p.no.elim
    rename_i xs ys e1 e2
    split at p
    case isFalse => exact p.no.elim
    rename_i hz
    cases ra with
    | ref ea =>
      cases rb with
      | ref eb =>
        obtain ⟨va, qa, ra⟩ := R.elems e1 ea
        obtain ⟨vb, qb, rb⟩ := R.elems e2 eb
        exact op_cat pins s σ H _ _ v u Q I rx ry ⟨_, _, _, _, rfl, rfl, qa, qb, by rw [← ra.length, ← rb.length, ← big_eq]; exact hz, fun q hq => p.new R (ra.append rb) hq⟩
  · cases ra; cases rb
    exact op_sub pins s σ H _ _ v u Q I rx ry ⟨_, _, rfl, rfl, p.ret R (.int _)⟩
  · cases ra; cases rb
    split at p
    case isFalse => exact p.no.elim
    rename_i i j hz
    unfold mulOk at hz
    simp only [Bool.or_eq_true, decide_eq_true_eq] at hz
    rcases hz with (hz | hz) | hz
    · exact op_mul pins s σ H _ _ v u Q I rx ry ⟨_, _, rfl, rfl, .inl (by omega), p.ret R (.int _)⟩
    · exact op_mul pins s σ H _ _ v u Q I rx ry ⟨_, _, rfl, rfl, .inr (by omega), p.ret R (.int _)⟩
    · exact op_mulW pins s σ H _ _ v u Q I rx ry ⟨_, _, rfl, rfl, hz, p.ret R (.int _)⟩
  · split at p
    case h_2 => exact p.no.elim
    rename_i xs e1
    split at p
    case isFalse => exact p.no.elim
    rename_i hz
    cases rb
    cases ra with
    | ref ea =>
      obtain ⟨va, qa, ra⟩ := R.elems e1 ea
      refine op_rep pins s σ H _ _ v u Q I rx ry ⟨_, _, _, rfl, rfl, qa, by omega, by omega, by rw [← ra.length, ← big_eq]; exact hz.2.1, fun q hq => p.new R (ra.replicate _) hq⟩
  · split at p
    case isFalse => exact p.no.elim
    rename_i str n hz
    obtain ⟨h0, hs, hb⟩ := hz
    cases ra
    cases rb
    obtain ⟨t, rfl⟩ := rx
    obtain ⟨t', rfl⟩ := ry
    have hlen : (ofS str).length = str.length := by
      show (ofS str).cps.size = _
      unfold ofS; rw [List.size_toArray]
    have fin : ∀ (z : Str), z = ofS (List.replicate n.toNat str).flatten → ∀ s', Inv X pins σ H s' → ∀ t, EP X pins σ Q (.str z t) s' := fun z e s' I' t =>
      ⟨.str z, H, I', ⟨t, rfl⟩, by rw [e]; exact p.ret R (.str _)⟩
    refine PySem.P.mul_str (by rw [decide_eq_false (by omega), decide_eq_false (by omega)]; rfl) (fun h1 _ => ?_) (fun _ _ => ?_) ?_
    · have hn : 0 < n := by omega
      have : ((ofS str).length : Int) ≤ (2 ^ 63 - 1) / n := by
        rw [hlen]
        refine (Int.le_ediv_iff_mul_le hn).mpr ?_
        have h2 : ((str.length * n.toNat : Nat) : Int) ≤ (16777216 : Nat) := Int.ofNat_le.mpr hs
        rw [Int.natCast_mul, Int.toNat_of_nonneg h0] at h2
        have h3 : ((16777216 : Nat) : Int) ≤ 2 ^ 63 - 1 := by decide
        omega
      omega
    · unfold Builtin.Str.tooLong
      rw [hlen]
      exact decide_eq_false (by have : sizeLine = big := big_eq.symm; omega)
    · split
      · rename_i hn
        refine ⟨by decide, fin _ ?_ _ (I.tok _) _⟩
        have e0 : n.toNat = 0 := by omega
        rw [e0]; rfl
      · split
        · rename_i hn hq
          refine fin _ ?_ _ I _
          rw [Bool.or_eq_true, beq_iff_eq, beq_iff_eq, hlen] at hq
          rcases hq with e | e
          · rw [e]
            show ofS str = ofS (str ++ [])
            rw [List.append_nil]
          · have e' : str = [] := List.eq_nil_of_length_eq_zero e
            rw [e']
            simp
        · refine ⟨?_, fin _ ?_ _ (I.tok _) _⟩
          · rw [foldl_flat]
            have e3 : sizeLine = big := big_eq.symm
            have e4 : ∀ (n : Nat) (l : List Nat), (List.replicate n l).flatten.length = n * l.length := fun n l => by
              induction n with
              | zero => simp
              | succ n ih => rw [List.replicate_succ, List.flatten_cons, List.length_append, ih, Nat.succ_mul]; omega
            show (#[] ++ (List.replicate n.toNat (ofS str).cps.toList).flatten.toArray).size ≤ _
            rw [Array.size_append, List.size_toArray, List.size_toArray, e4]
            rw [Nat.mul_comm] at hs
            show 0 + n.toNat * (str.toArray.toList).length ≤ _
            rw [List.toList_toArray]
            omega
          · show Str.mk _ = Str.mk _
            rw [foldl_flat]
            simp [ofS]
  · split at p
    case isFalse => exact p.no.elim
    rename_i hz
    cases ra; cases rb
    exact op_fdivW pins s σ H _ _ v u Q I rx ry ⟨_, _, rfl, rfl, hz, p.ret R (.int _)⟩
  · cases ra; cases rb
    split at p
    · rename_i hz
      exact op_mod pins s σ H _ _ v u Q I rx ry ⟨_, _, rfl, rfl, hz, p.ret R (.int _)⟩
    · split at p
      case isFalse => exact p.no.elim
      rename_i hz
      exact op_modN pins s σ H _ _ v u Q I rx ry ⟨_, _, rfl, rfl, by omega, p.ret R (.int _)⟩
  · split at p
    case isFalse => exact p.no.elim
    rename_i hz
    cases ra; cases rb
    exact op_pow pins s σ H _ _ v u Q I rx ry ⟨_, _, rfl, rfl, hz, p.ret R (.int _)⟩
  · exact p.no.elim
end MP
/-! MP5: comparisons, built-in functions and methods by values. -/
namespace MP
open PySem PySem.Spec PyProof.Rows L2
section
variable {K : PySem.W.Frag} {μ μ1 μ2 μ' ν : List Addr} {H H1 H2 H' : AH} {h h' : MHp} {EX : String → AH → Prop}
theorem dpAll (R : RH K μ H h) {f : MV → Option PyData} : ∀ {xs : List MV} {vs : List V} {ds : List PyData}, (∀ v x D, f v = some D → RM K μ H v x → Dp K H x D) → mapO f xs = some ds → RMs K μ H xs vs → DpAll K H vs ds
  | [], _, ds, _, e, .nil => by cases (show some [] = some ds from e); exact .nil
  | x :: xs, _, ds, k, e, .cons r t => by
    unfold mapO at e
    cases h1 : f x with
    | none => rw [h1] at e; cases e
    | some d =>
      rw [h1] at e
      cases h2 : mapO f xs with
      | none => rw [h2] at e; cases e
      | some ds' =>
        rw [h2] at e
        cases (show some (d :: ds') = some ds from e)
        exact .cons (k _ _ _ h1 r) (dpAll R k h2 t)
theorem toD_ok (R : RH K μ H h) : ∀ (d : Nat) (v : MV) (x : V) (D : PyData), toD h d v = some D → RM K μ H v x → Dp K H x D
  | d, .non, _, D, e, .non => by
    have : some PyData.none = some D := by cases d <;> exact e
    cases this; exact .non
  | d, .bl b, _, D, e, .bl _ => by
    have : some (PyData.bool b) = some D := by cases d <;> exact e
    cases this; exact .bl b
  | d, .int b, _, D, e, .int _ => by
    have : some (PyData.int b) = some D := by cases d <;> exact e
    cases this; exact .int b
  | d, .str b, _, D, e, .str _ => by
    have : some (PyData.str (ofS b)) = some D := by cases d <;> exact e
    cases this; exact .str _
  | 0, .tup xs, _, D, e, _ => by cases (show none = some D from e)
  | 0, .rol xs, _, D, e, _ => by cases (show none = some D from e)
  | 0, .ref n, _, D, e, _ => by cases (show none = some D from e)
  | d + 1, .tup xs, _, D, e, .tup s r => by
    have e : (mapO (toD h d) xs).map PyData.tuple = some D := e
    cases h1 : mapO (toD h d) xs with
    | none => rw [h1] at e; cases e
    | some ds =>
      rw [h1] at e
      cases (show some (PyData.tuple ds) = some D from e)
      exact .tup (SqT.of s) (dpAll R (fun v x D => toD_ok R d v x D) h1 r)
  | d + 1, .rol xs, _, D, e, .rol s r => by
    have e : (mapO (toD h d) xs).map PyData.list = some D := e
    cases h1 : mapO (toD h d) xs with
    | none => rw [h1] at e; cases e
    | some ds =>
      rw [h1] at e
      cases (show some (PyData.list ds) = some D from e)
      exact .lst s.1 (dpAll R (fun v x D => toD_ok R d v x D) h1 r)
  | d + 1, .ref n, _, D, e, .ref ea => by
    have e : (match elems h (.ref n) with | some xs => (mapO (toD h d) xs).map PyData.list | none => none) = some D := e
    cases h0 : elems h (.ref n) with
    | none => rw [h0] at e; cases e
    | some xs =>
      rw [h0] at e
      obtain ⟨vs, q, r⟩ := R.elems h0 ea
      cases h1 : mapO (toD h d) xs with
      | none => simp only [h1] at e; cases e
      | some ds =>
        simp only [h1] at e
        cases (show some (PyData.list ds) = some D from e)
        exact .lst (SqL.of q) (dpAll R (fun v x D => toD_ok R d v x D) h1 r)
end
def cmpOf : Cmp → CmpOp
  | .eq => .Eq | .ne => .NotEq | .lt => .Lt | .le => .LtE | .gt => .Gt | .ge => .GtE | .isin => .In | .notin => .NotIn | .is_ => .Is | .isnot => .IsNot
def rCmp (K : PySem.W.Frag) (op : Cmp) : R2 := fun x y H Q => ∃ μ h u v b, RH K μ H h ∧ RM K μ H u x ∧ RM K μ H v y ∧ cmpV op u v h = some b ∧ Q (.bl b) H
theorem ofS_inj {s t : List Nat} : ofS s = ofS t ↔ s = t := by
  constructor
  · intro e
    have e2 : s.toArray = t.toArray := congrArg Str.cps e
    simpa using congrArg Array.toList e2
  · intro e; rw [e]
section
variable {X : Cx} {h : MHp} {μ : List Addr}
theorem eqV_ok (hu : X.A.units + 65 < cLine) {pins : List (Addr × Obj)} {s : Shared} {σ : L2.St} {H : AH} {x y : V} {v u : Value} {a b : MV} {c : Bool} (I : Inv X pins σ H s) (rx : RelV x v) (ry : RelV y u) (R : RH X.K μ H h) (ra : RM X.K μ H a x) (rb : RM X.K μ H b y) (e : eqV h a b = some c) :
    (∀ Q : VK, Q (.bl c) H → wpAny (model X.prog X.w) X.A (compareOp .Eq v u) (EP X pins σ Q) X.xe s) ∧ ∀ Q : VK, Q (.bl (!c)) H → wpAny (model X.prog X.w) X.A (compareOp .NotEq v u) (EP X pins σ Q) X.xe s := by
  unfold eqV at e
  split at e
  · cases ra; cases rb; cases e
    have d : ∀ i j : Int, decide (V.int i = V.int j) = decide (i = j) := fun i j => by by_cases q : i = j <;> simp [q]
    exact ⟨fun Q q => op_eq pins s σ H _ _ v u Q I rx ry ⟨rfl, by rw [d]; exact q⟩, fun Q q => op_ne pins s σ H _ _ v u Q I rx ry ⟨rfl, by rw [d]; exact q⟩⟩
  · cases ra; cases rb; cases e
    have d : ∀ i j : List Nat, decide (V.str (ofS i) = V.str (ofS j)) = decide (i = j) := fun i j => by
      by_cases q : i = j
      · simp [q]
      · have : ¬ V.str (ofS i) = V.str (ofS j) := fun z => q (ofS_inj.mp (V.str.inj z))
        simp [q, this]
    exact ⟨fun Q q => op_eq pins s σ H _ _ v u Q I rx ry ⟨rfl, by rw [d]; exact q⟩, fun Q q => op_ne pins s σ H _ _ v u Q I rx ry ⟨rfl, by rw [d]; exact q⟩⟩
  · cases ra; cases rb; cases e
    have d : ∀ i j : Bool, decide (V.bl i = V.bl j) = decide (i = j) := fun i j => by by_cases q : i = j <;> simp [q]
    exact ⟨fun Q q => op_eq pins s σ H _ _ v u Q I rx ry ⟨rfl, by rw [d]; exact q⟩, fun Q q => op_ne pins s σ H _ _ v u Q I rx ry ⟨rfl, by rw [d]; exact q⟩⟩
  · cases ra; cases rb; cases e
    exact ⟨fun Q q => op_eq pins s σ H _ _ v u Q I rx ry ⟨rfl, q⟩, fun Q q => op_ne pins s σ H _ _ v u Q I rx ry ⟨rfl, q⟩⟩
  · split at e
    case h_2 => cases e
    rename_i d1 d2 h1 h2
    split at e
    case isFalse => cases e
    rename_i hs
    rw [Bool.and_eq_true] at hs
    cases e
    have p1 := toD_ok R 20 _ _ _ h1 ra
    have p2 := toD_ok R 20 _ _ _ h2 rb
    exact ⟨fun Q q => op_eqD (by omega) pins s σ H _ _ v u Q I rx ry ⟨_, _, p1, p2, hs.1, hs.2, q⟩, fun Q q => op_neD (by omega) pins s σ H _ _ v u Q I rx ry ⟨_, _, p1, p2, hs.1, hs.2, q⟩⟩
theorem inV_ok (hu : X.A.units + 65 < cLine) {pins : List (Addr × Obj)} {s : Shared} {σ : L2.St} {H : AH} {x y : V} {v u : Value} {a b : MV} {c : Bool} (I : Inv X pins σ H s) (rx : RelV x v) (ry : RelV y u) (R : RH X.K μ H h) (ra : RM X.K μ H a x) (rb : RM X.K μ H b y) (e : inV h a b = some c) :
    (∀ Q : VK, Q (.bl c) H → wpAny (model X.prog X.w) X.A (compareOp .In v u) (EP X pins σ Q) X.xe s) ∧ ∀ Q : VK, Q (.bl (!c)) H → wpAny (model X.prog X.w) X.A (compareOp .NotIn v u) (EP X pins σ Q) X.xe s := by
  unfold MP.inV at e
  split at e
  · split at e
    case h_2 => cases e
    cases ra; cases rb; cases e
    have d : ∀ (c : Nat) (t : List Nat), decide (c ∈ (ofS t).cps.toList) = decide (c ∈ t) := fun c t => decide_eq_decide.mpr (by simp [ofS])
    exact ⟨fun Q q => op_inS pins s σ H _ _ v u Q I rx ry ⟨_, _, rfl, rfl, by rw [d]; exact q⟩, fun Q q => op_notInS pins s σ H _ _ v u Q I rx ry ⟨_, _, rfl, rfl, by rw [d]; exact q⟩⟩
  · split at e
    case h_2 => cases e
    rename_i d1 ds h1 h2
    split at e
    case isFalse => cases e
    rename_i hs
    rw [Bool.and_eq_true] at hs
    cases e
    have p1 := toD_ok R 20 _ _ _ h1 ra
    have p2 := toD_ok R 20 _ _ _ h2 rb
    exact ⟨fun Q q => op_inD hu pins s σ H _ _ v u Q I rx ry ⟨_, _, p1, p2, hs.1, hs.2, q⟩, fun Q q => op_notInD hu pins s σ H _ _ v u Q I rx ry ⟨_, _, p1, p2, hs.1, hs.2, q⟩⟩
theorem op_cmp (hu : X.A.units + 65 < cLine) (op : Cmp) : OpR X (compareOp (cmpOf op)) (rCmp X.K op) := by
  intro pins s σ H x y v u Q I rx ry ⟨μ, h, a, b, c, R, ra, rb, e, q⟩
  have neg : ∀ {o : Option Bool} {c : Bool}, o.map (!·) = some c → o = some (!c) := fun {o c} e => by
    cases o with
    | none => cases e
    | some d => cases (show some (!d) = some c from e); simp
  unfold cmpV at e
  split at e
  · exact (eqV_ok hu I rx ry R ra rb e).1 Q q
  · exact (eqV_ok hu I rx ry R ra rb (neg e)).2 Q (by rw [Bool.not_not]; exact q)
  · exact (inV_ok hu I rx ry R ra rb e).1 Q q
  · exact (inV_ok hu I rx ry R ra rb (neg e)).2 Q (by rw [Bool.not_not]; exact q)
  · split at e
    · cases ra; cases rb; cases e
      exact op_isN pins s σ H _ _ v u Q I rx ry ⟨rfl, q⟩
    · rename_i hn
      cases rb; cases e
      refine op_isN pins s σ H _ _ v u Q I rx ry ⟨rfl, ?_⟩
      have : ¬ x = V.non := fun z => by subst z; cases ra; exact hn rfl
      rw [decide_eq_false this]; exact q
    · cases ra; cases rb; cases e
      exact op_isBl pins s σ H _ _ v u Q I rx ry ⟨_, _, rfl, rfl, q⟩
    · cases e
  · split at e
    · cases ra; cases rb; cases e
      exact op_notN pins s σ H _ _ v u Q I rx ry ⟨rfl, q⟩
    · rename_i hn
      cases rb; cases e
      refine op_notN pins s σ H _ _ v u Q I rx ry ⟨rfl, ?_⟩
      have : ¬ x = V.non := fun z => by subst z; cases ra; exact hn rfl
      rw [decide_eq_false this]; exact q
    · cases ra; cases rb; cases e
      exact op_notBl pins s σ H _ _ v u Q I rx ry ⟨_, _, rfl, rfl, q⟩
    · cases e
  · split at e
    case h_2 => cases e
    cases ra; cases rb; cases e
    exact op_lt pins s σ H _ _ v u Q I rx ry ⟨_, _, rfl, rfl, q⟩
  · split at e
    case h_2 => cases e
    cases ra; cases rb; cases e
    exact op_le pins s σ H _ _ v u Q I rx ry ⟨_, _, rfl, rfl, q⟩
  · split at e
    case h_2 => cases e
    cases ra; cases rb; cases e
    exact op_gt pins s σ H _ _ v u Q I rx ry ⟨_, _, rfl, rfl, q⟩
  · split at e
    case h_2 => cases e
    cases ra; cases rb; cases e
    exact op_ge pins s σ H _ _ v u Q I rx ry ⟨_, _, rfl, rfl, q⟩
end
end MP
/-! MP6: built-in functions and methods by values. -/
namespace MP
open PySem PySem.Spec PyProof.Rows L2
section
variable {K : PySem.W.Frag} {μ μ1 μ2 μ' ν : List Addr} {H H1 H2 H' : AH} {h h' : MHp} {EX : String → AH → Prop}
theorem intsL_ok : ∀ {xs : List MV} {vs : List V} {ns : List Int}, intsL xs = some ns → RMs K μ H xs vs → vs = ns.map V.int
  | [], _, ns, e, .nil => by cases (show some [] = some ns from e); rfl
  | .int i :: xs, _, ns, e, .cons r t => by
    have e : (intsL xs).map (i :: ·) = some ns := e
    cases h1 : intsL xs with
    | none => rw [h1] at e; cases e
    | some ms =>
      rw [h1] at e
      cases (show some (i :: ms) = some ns from e)
      cases r
      rw [intsL_ok h1 t]; rfl
  | .non :: _, _, ns, e, _ => by cases (show none = some ns from e)
  | .bl _ :: _, _, ns, e, _ => by cases (show none = some ns from e)
  | .str _ :: _, _, ns, e, _ => by cases (show none = some ns from e)
  | .tup _ :: _, _, ns, e, _ => by cases (show none = some ns from e)
  | .rol _ :: _, _, ns, e, _ => by cases (show none = some ns from e)
  | .ref _ :: _, _, ns, e, _ => by cases (show none = some ns from e)
theorem boolsL_ok : ∀ {xs : List MV} {vs : List V} {ns : List Bool}, boolsL xs = some ns → RMs K μ H xs vs → vs = ns.map V.bl
  | [], _, ns, e, .nil => by cases (show some [] = some ns from e); rfl
  | .bl i :: xs, _, ns, e, .cons r t => by
    have e : (boolsL xs).map (i :: ·) = some ns := e
    cases h1 : boolsL xs with
    | none => rw [h1] at e; cases e
    | some ms =>
      rw [h1] at e
      cases (show some (i :: ms) = some ns from e)
      cases r
      rw [boolsL_ok h1 t]; rfl
  | .non :: _, _, ns, e, _ => by cases (show none = some ns from e)
  | .int _ :: _, _, ns, e, _ => by cases (show none = some ns from e)
  | .str _ :: _, _, ns, e, _ => by cases (show none = some ns from e)
  | .tup _ :: _, _, ns, e, _ => by cases (show none = some ns from e)
  | .rol _ :: _, _, ns, e, _ => by cases (show none = some ns from e)
  | .ref _ :: _, _, ns, e, _ => by cases (show none = some ns from e)
theorem strsL_ok : ∀ {xs : List MV} {vs : List V} {ns : List (List Nat)}, strsL xs = some ns → RMs K μ H xs vs → vs = (ns.map ofS).map V.str
  | [], _, ns, e, .nil => by cases (show some [] = some ns from e); rfl
  | .str i :: xs, _, ns, e, .cons r t => by
    have e : (strsL xs).map (i :: ·) = some ns := e
    cases h1 : strsL xs with
    | none => rw [h1] at e; cases e
    | some ms =>
      rw [h1] at e
      cases (show some (i :: ms) = some ns from e)
      cases r
      rw [strsL_ok h1 t]; rfl
  | .non :: _, _, ns, e, _ => by cases (show none = some ns from e)
  | .int _ :: _, _, ns, e, _ => by cases (show none = some ns from e)
  | .bl _ :: _, _, ns, e, _ => by cases (show none = some ns from e)
  | .tup _ :: _, _, ns, e, _ => by cases (show none = some ns from e)
  | .rol _ :: _, _, ns, e, _ => by cases (show none = some ns from e)
  | .ref _ :: _, _, ns, e, _ => by cases (show none = some ns from e)
def kOf (H : AH) : V → Int × Int
  | .ref t => match H t with | some (.tup [.int i, .int j]) => (i, j) | _ => (0, 0)
  | _ => (0, 0)
theorem pairs_ok : ∀ {xs : List MV} {vs : List V} {ps : List (Int × Int)}, pairs xs = some ps → RMs K μ H xs vs → vs.map (kOf H) = ps ∧ ∀ x ∈ vs, ∃ t, x = V.ref t ∧ H t = some (.tup [.int (kOf H x).1, .int (kOf H x).2])
  | [], _, ps, e, .nil => by cases (show some [] = some ps from e); exact ⟨rfl, fun x hx => by simp at hx⟩
  | .tup [x, y] :: xs, _, ps, e, .cons r t => by
    cases x <;> cases y <;> try (cases (show none = some ps from e))
    rename_i i j
    have e : (pairs xs).map ((i, j) :: ·) = some ps := e
    cases h1 : pairs xs with
    | none => rw [h1] at e; cases e
    | some ms =>
      rw [h1] at e
      cases (show some ((i, j) :: ms) = some ps from e)
      obtain ⟨e2, k2⟩ := pairs_ok h1 t
      cases r with
      | @tup _ vs a s r =>
        cases r with
        | cons r1 r =>
          cases r with
          | cons r2 r =>
            cases r; cases r1; cases r2
            have ek : kOf H (V.ref a) = (i, j) := by unfold kOf; simp only [s]
            refine ⟨by rw [List.map_cons, ek, e2], fun x hx => ?_⟩
            rcases List.mem_cons.mp hx with z | z
            · subst z; exact ⟨a, rfl, by rw [ek]; exact s⟩
            · exact k2 x z
  | .non :: _, _, ns, e, _ => by cases (show none = some ns from e)
  | .int _ :: _, _, ns, e, _ => by cases (show none = some ns from e)
  | .bl _ :: _, _, ns, e, _ => by cases (show none = some ns from e)
  | .str _ :: _, _, ns, e, _ => by cases (show none = some ns from e)
  | .rol _ :: _, _, ns, e, _ => by cases (show none = some ns from e)
  | .ref _ :: _, _, ns, e, _ => by cases (show none = some ns from e)
  | .tup [] :: _, _, ns, e, _ => by cases (show none = some ns from e)
  | .tup [_] :: _, _, ns, e, _ => by unfold pairs at e; split at e <;> simp_all
  | .tup (_ :: _ :: _ :: _) :: _, _, ns, e, _ => by unfold pairs at e; split at e <;> simp_all
/-! ### sorting by insertion -/
theorem insI_perm (i : Int) : ∀ l, (insI i l).Perm (i :: l)
  | [] => List.Perm.refl _
  | j :: js => by
    unfold insI
    split
    · exact List.Perm.refl _
    · exact ((insI_perm i js).cons j).trans (List.Perm.swap i j js)
theorem sortI_perm : ∀ l, (sortI l).Perm l
  | [] => List.Perm.refl _
  | i :: is => (insI_perm i (sortI is)).trans ((sortI_perm is).cons i)
theorem insI_sorted (i : Int) : ∀ l, l.Pairwise (· ≤ ·) → (insI i l).Pairwise (· ≤ ·)
  | [], _ => by simp [insI]
  | j :: js, h => by
    have h' := List.pairwise_cons.mp h
    unfold insI
    split
    · rename_i hij
      refine List.pairwise_cons.mpr ⟨fun x hx => ?_, h⟩
      rcases List.mem_cons.mp hx with z | z
      · rw [z]; exact hij
      · exact Int.le_trans hij (h'.1 x z)
    · rename_i hij
      refine List.pairwise_cons.mpr ⟨fun x hx => ?_, insI_sorted i js h'.2⟩
      rcases List.mem_cons.mp ((insI_perm i js).mem_iff.mp hx) with z | z
      · rw [z]; omega
      · exact h'.1 x z
theorem sortI_sorted : ∀ l, (sortI l).Pairwise (· ≤ ·)
  | [] => List.Pairwise.nil
  | i :: is => insI_sorted i _ (sortI_sorted is)
theorem leP_iff {p q : Int × Int} : leP p q = true ↔ p.1 < q.1 ∨ (p.1 = q.1 ∧ p.2 ≤ q.2) := by
  unfold leP; simp
theorem leP_total (p q : Int × Int) : leP p q = true ∨ leP q p = true := by
  rw [leP_iff, leP_iff]; omega
theorem leP_trans {p q r : Int × Int} (a : leP p q = true) (b : leP q r = true) : leP p r = true := by
  rw [leP_iff] at *; omega
theorem leP_anti {p q : Int × Int} (a : leP p q = true) (b : leP q p = true) : p = q := by
  rw [leP_iff] at *
  obtain ⟨p1, p2⟩ := p
  obtain ⟨q1, q2⟩ := q
  simp only [Prod.mk.injEq] at *
  omega
theorem insP_perm (i : Int × Int) : ∀ l, (insP i l).Perm (i :: l)
  | [] => List.Perm.refl _
  | j :: js => by
    unfold insP
    split
    · exact List.Perm.refl _
    · exact ((insP_perm i js).cons j).trans (List.Perm.swap i j js)
theorem sortP_perm : ∀ l, (sortP l).Perm l
  | [] => List.Perm.refl _
  | i :: is => (insP_perm i (sortP is)).trans ((sortP_perm is).cons i)
theorem insP_sorted (i : Int × Int) : ∀ l, l.Pairwise (leP · · = true) → (insP i l).Pairwise (leP · · = true)
  | [], _ => by simp [insP]
  | j :: js, h => by
    have h' := List.pairwise_cons.mp h
    unfold insP
    split
    · rename_i hij
      refine List.pairwise_cons.mpr ⟨fun x hx => ?_, h⟩
      rcases List.mem_cons.mp hx with z | z
      · rw [z]; exact hij
      · exact leP_trans hij (h'.1 x z)
    · rename_i hij
      refine List.pairwise_cons.mpr ⟨fun x hx => ?_, insP_sorted i js h'.2⟩
      rcases List.mem_cons.mp ((insP_perm i js).mem_iff.mp hx) with z | z
      · rw [z]; exact (leP_total i j).resolve_left hij
      · exact h'.1 x z
theorem sortP_sorted : ∀ l, (sortP l).Pairwise (leP · · = true)
  | [] => List.Pairwise.nil
  | i :: is => insP_sorted i _ (sortP_sorted is)
theorem sortP_uniq {a b : List (Int × Int)} (hp : a.Perm b) (ha : a.Pairwise (leP · · = true)) (hb : b.Pairwise (leP · · = true)) : a = b :=
  hp.eq_of_pairwise (fun x y _ _ h1 h2 => leP_anti h1 h2) ha hb
theorem sorted_refs {xs : List MV} {vs ys : List V} {ps : List (Int × Int)} (e : pairs xs = some ps) (r : RMs K μ H xs vs) (hs : SrtO.Srtd (ltP (kOf H)) ys) (hp : ys.Perm vs) : RMs K μ H ((sortP ps).map ofP) ys := by
  obtain ⟨e1, k⟩ := pairs_ok e r
  have hm : ys.map (kOf H) = sortP ps := by
    refine sortP_uniq ((hp.map _).trans ((sortP_perm ps).trans (by rw [e1])).symm) ?_ (sortP_sorted ps)
    rw [List.pairwise_map]
    refine List.Pairwise.imp ?_ hs
    intro x y q
    have := SrtO.lexB_no.mp q
    rw [leP_iff]
    omega
  rw [← hm, List.map_map]
  have hk : ∀ y ∈ ys, RM K μ H (ofP (kOf H y)) y := fun y hy => by
    obtain ⟨t, et, ht⟩ := k y (hp.mem_iff.mp hy)
    rw [et] at ht ⊢
    exact .tup ht (.cons (.int _) (.cons (.int _) .nil))
  clear hs hp hm
  induction ys with
  | nil => exact .nil
  | cons y ys ih => exact .cons (hk y List.mem_cons_self) (ih fun z hz => hk z (List.mem_cons_of_mem _ hz))
theorem minL_ok : ∀ (i : Int) (is : List Int), minL i is ∈ i :: is ∧ ∀ y ∈ i :: is, minL i is ≤ y
  | i, [] => ⟨by simp [minL], fun y hy => by simp at hy; simp [minL, hy]⟩
  | i, j :: js => by
    obtain ⟨h1, h2⟩ := minL_ok (if j < i then j else i) js
    unfold minL
    refine ⟨?_, fun y hy => ?_⟩
    · rcases List.mem_cons.mp h1 with z | z
      · rw [z]; split <;> simp
      · exact List.mem_cons_of_mem _ (List.mem_cons_of_mem _ z)
    · have h3 := h2 _ List.mem_cons_self
      rcases List.mem_cons.mp hy with z | z
      · rw [z]; split at h3 <;> split <;> omega
      · rcases List.mem_cons.mp z with z | z
        · rw [z]; split at h3 <;> split <;> omega
        · exact h2 y (List.mem_cons_of_mem _ z)
theorem maxL_ok : ∀ (i : Int) (is : List Int), maxL i is ∈ i :: is ∧ ∀ y ∈ i :: is, y ≤ maxL i is
  | i, [] => ⟨by simp [maxL], fun y hy => by simp at hy; simp [maxL, hy]⟩
  | i, j :: js => by
    obtain ⟨h1, h2⟩ := maxL_ok (if i < j then j else i) js
    unfold maxL
    refine ⟨?_, fun y hy => ?_⟩
    · rcases List.mem_cons.mp h1 with z | z
      · rw [z]; split <;> simp
      · exact List.mem_cons_of_mem _ (List.mem_cons_of_mem _ z)
    · have h3 := h2 _ List.mem_cons_self
      rcases List.mem_cons.mp hy with z | z
      · rw [z]; split at h3 <;> split <;> omega
      · rcases List.mem_cons.mp z with z | z
        · rw [z]; split at h3 <;> split <;> omega
        · exact h2 y (List.mem_cons_of_mem _ z)
theorem RMs.ints : ∀ ns : List Int, RMs K μ H (ns.map .int) (ns.map V.int)
  | [] => .nil
  | n :: ns => .cons (.int n) (RMs.ints ns)
theorem RMs.strs : ∀ ns : List (List Nat), RMs K μ H (ns.map .str) ((ns.map ofS).map V.str)
  | [] => .nil
  | n :: ns => .cons (.str n) (RMs.strs ns)
end
theorem RMs.one {K : PySem.W.Frag} {μ : List Addr} {H : AH} {u : MV} {xs : List V} (r : RMs K μ H [u] xs) : ∃ x, xs = [x] ∧ RM K μ H u x := by
  cases r with
  | cons r t => cases t; exact ⟨_, rfl, r⟩
theorem RMs.two {K : PySem.W.Frag} {μ : List Addr} {H : AH} {u v : MV} {xs : List V} (r : RMs K μ H [u, v] xs) : ∃ x y, xs = [x, y] ∧ RM K μ H u x ∧ RM K μ H v y := by
  cases r with
  | cons r t => obtain ⟨y, rfl, r2⟩ := t.one; exact ⟨_, _, rfl, r, r2⟩
theorem notTup {X : Cx} {pins : List (Addr × Obj)} {s : Shared} {σ : L2.St} {H : AH} {a : Addr} {xs ys : List V} (I : Inv X pins σ H s) (hl : SqL X.K H a xs) (ht : SqT X.K H a ys) : False := by
  obtain ⟨its, rv, ⟨o, n, ho, hc, _, hd⟩, _⟩ := I.list hl
  obtain ⟨its2, rv2, ⟨o2, ho2, hc2, n2, hd2⟩, _⟩ := I.tuple ht
  rw [ho] at ho2; cases ho2
  rw [hc] at hc2
  exact absurd (Value.type.inj hc2) (by decide)
/-! ### calls -/
def fOf : Bi → Value
  | .len => .builtin "len" | .abs => .builtin "abs" | .sum => .builtin "sum" | .min => .builtin "min" | .max => .builtin "max" | .int => .type "int" | .list => .type "list" | .tuple => .type "tuple"
  | .sorted => .builtin "sorted" | .all => .builtin "all" | .any => .builtin "any" | .divmod => .builtin "divmod" | .str => .type "str" | .repr => .builtin "repr"
def rBi (K : PySem.W.Frag) (EX : String → AH → Prop) (b : Bi) : List V → AH → VK → Prop := fun xs H Q => ∃ μ h us, RH K μ H h ∧ RMs K μ H us xs ∧ Pst K μ H EX (RM K) (biV b us h) Q
theorem ofS_len (s : List Nat) : (ofS s).length = s.length := by
  show (ofS s).cps.size = _
  unfold ofS; rw [List.size_toArray]
theorem cr_bi {X : Cx} {EX : String → AH → Prop} (hc : X.calm = true) (b : Bi) : CallR X (fOf b) (rBi X.K EX b) := by
  intro pins s σ H xs us Q I rx ⟨μ, h, vs, R, rs, p⟩
  unfold biV at p
  split at p
  · -- len of a text
    split at p
    case isFalse => exact p.no.elim
    rename_i hz
    obtain ⟨x, rfl, r⟩ := rs.one
    cases r
    refine call_len_str pins s σ H _ us Q I rx ⟨_, rfl, by rw [ofS_len, ← big_eq]; exact hz, ?_⟩
    rw [ofS_len]
    exact p.ret R (.int _)
  · split at p
    case h_2 => exact p.no.elim
    rename_i xs e
    obtain ⟨x, rfl, r⟩ := rs.one
    obtain ⟨a, ws, rfl, hq, rr⟩ := RM.seqs R r e
    refine call_len_seq pins s σ H _ us Q I rx ⟨_, _, rfl, hq, ?_⟩
    rw [← rr.length]
    exact p.ret R (.int _)
  · obtain ⟨x, rfl, r⟩ := rs.one
    cases r
    exact call_abs pins s σ H _ us Q I rx ⟨_, rfl, p.ret R (.int _)⟩
  · split at p
    case h_2 => exact p.no.elim
    rename_i ns e
    obtain ⟨x, rfl, r⟩ := rs.one
    obtain ⟨xs, e1, e2⟩ := Option.bind_eq_some_iff.mp e
    obtain ⟨a, ws, rfl, hq, rr⟩ := RM.elems R r e1
    have := intsL_ok e2 rr
    subst this
    exact cr_sum hc pins s σ H _ us Q I rx ⟨_, _, rfl, hq, p.ret R (.int _)⟩
  · obtain ⟨x, y, rfl, r, r2⟩ := rs.two
    cases r; cases r2
    exact call_min2 hc pins s σ H _ us Q I rx ⟨_, _, rfl, p.ret R (.int _)⟩
  · obtain ⟨x, y, rfl, r, r2⟩ := rs.two
    cases r; cases r2
    exact call_max2 hc pins s σ H _ us Q I rx ⟨_, _, rfl, p.ret R (.int _)⟩
  · split at p
    case h_2 => exact p.no.elim
    rename_i i is e
    obtain ⟨x, rfl, r⟩ := rs.one
    obtain ⟨xs, e1, e2⟩ := Option.bind_eq_some_iff.mp e
    obtain ⟨a, ws, rfl, hq, rr⟩ := RM.elems R r e1
    have := intsL_ok e2 rr
    subst this
    refine cr_min hc pins s σ H _ us Q I rx ⟨_, _, rfl, hq, by simp, fun m hm hy => ?_⟩
    have : m = minL i is := Int.le_antisymm (hy _ (minL_ok i is).1) ((minL_ok i is).2 m hm)
    subst this
    exact p.ret R (.int _)
  · split at p
    case h_2 => exact p.no.elim
    rename_i i is e
    obtain ⟨x, rfl, r⟩ := rs.one
    obtain ⟨xs, e1, e2⟩ := Option.bind_eq_some_iff.mp e
    obtain ⟨a, ws, rfl, hq, rr⟩ := RM.elems R r e1
    have := intsL_ok e2 rr
    subst this
    refine cr_max hc pins s σ H _ us Q I rx ⟨_, _, rfl, hq, by simp, fun m hm hy => ?_⟩
    have : m = maxL i is := Int.le_antisymm ((maxL_ok i is).2 m hm) (hy _ (maxL_ok i is).1)
    subst this
    exact p.ret R (.int _)
  · obtain ⟨x, rfl, r⟩ := rs.one
    cases r
    exact call_int1 pins s σ H _ us Q I rx (.inl ⟨_, rfl, p.ret R (.int _)⟩)
  · obtain ⟨x, rfl, r⟩ := rs.one
    cases r
    exact call_int1 pins s σ H _ us Q I rx (.inr ⟨_, rfl, p.ret R (.int _)⟩)
  · split at p
    case h_2 => exact p.no.elim
    rename_i xs e
    obtain ⟨x, rfl, r⟩ := rs.one
    obtain ⟨a, ws, rfl, hq, rr⟩ := RM.seqs R r e
    exact call_list_of pins s σ H _ us Q I rx ⟨_, _, rfl, hq, fun l hl => p.new R rr hl⟩
  · split at p
    case h_2 => exact p.no.elim
    rename_i xs e
    obtain ⟨x, rfl, r⟩ := rs.one
    obtain ⟨a, ws, rfl, hq, rr⟩ := RM.seqs R r e
    refine call_tuple_of pins s σ H _ us Q I rx ⟨a, ws, rfl, ?_⟩
    rcases hq with hq | hq
    · exact .inl ⟨hq, fun l hl => p.newT R rr hl⟩
    · refine .inr ⟨hq, ?_⟩
      cases r with
      | tup s r =>
        cases (show some _ = some xs from e)
        exact p.ret R (.tup s r)
      | ref ea =>
        obtain ⟨vs, q, _⟩ := R.elems (show MP.elems h (.ref _) = some xs from e) ea
        exact (notTup I (SqL.of q) hq).elim
      | rol s r => exact (notTup I s.1 hq).elim
  · split at p
    case h_2 => exact p.no.elim
    rename_i xs e
    obtain ⟨x, rfl, r⟩ := rs.one
    obtain ⟨a, ws, rfl, hq, rr⟩ := RM.elems R r e
    split at p
    · rename_i ns e2
      have := intsL_ok e2 rr
      subst this
      refine cr_sortedI pins s σ H _ us Q I rx ⟨_, _, rfl, hq, fun ns' q hp ho hn => ?_⟩
      have : ns' = sortI ns := PySem.W.ksm_same (hp.trans (sortI_perm ns).symm) ho (sortI_sorted ns)
      subst this
      exact p.new R (RMs.ints _) hn
    · split at p
      case h_2 => exact p.no.elim
      rename_i ps e2
      obtain ⟨_, k⟩ := pairs_ok e2 rr
      exact cr_sortedPO pins s σ H _ us Q I rx ⟨_, _, kOf H, rfl, hq, k, fun ys q h1 h2 hn => p.new R (sorted_refs e2 rr h1 h2.perm) hn⟩
  · split at p
    case h_2 => exact p.no.elim
    rename_i ns e
    obtain ⟨x, rfl, r⟩ := rs.one
    obtain ⟨xs, e1, e2⟩ := Option.bind_eq_some_iff.mp e
    obtain ⟨a, ws, rfl, hq, rr⟩ := RM.elems R r e1
    have := boolsL_ok e2 rr
    subst this
    exact cr_all hc pins s σ H _ us Q I rx ⟨_, _, rfl, hq, p.ret R (.bl _)⟩
  · split at p
    case h_2 => exact p.no.elim
    rename_i ns e
    obtain ⟨x, rfl, r⟩ := rs.one
    obtain ⟨xs, e1, e2⟩ := Option.bind_eq_some_iff.mp e
    obtain ⟨a, ws, rfl, hq, rr⟩ := RM.elems R r e1
    have := boolsL_ok e2 rr
    subst this
    exact cr_any hc pins s σ H _ us Q I rx ⟨_, _, rfl, hq, p.ret R (.bl _)⟩
  · split at p
    case isFalse => exact p.no.elim
    rename_i hz
    obtain ⟨x, y, rfl, r, r2⟩ := rs.two
    cases r; cases r2
    exact call_divmodW pins s σ H _ us Q I rx ⟨_, _, rfl, ⟨hz.1, PyProof.noPylong_of_log2 hz.2⟩, fun q hq => p.newT R (.cons (.int _) (.cons (.int _) .nil)) hq⟩
  · exact p.no.elim
end MP
/-! MP7: methods, subscripts, slices, stores, isinstance by values. -/
namespace MP
open PySem PySem.Spec PyProof.Rows L2
def mtId : Mt → String
  | .append => "list.append" | .pop => "list.pop" | .extend => "list.extend" | .reverse => "list.reverse" | .join => "str.join" | .count => "str.count" | .index => "list.index"
def mtT : Mt → String
  | .join => "str" | .count => "str" | _ => "list"
def rMt (K : PySem.W.Frag) (EX : String → AH → Prop) (m : Mt) : V → List V → AH → VK → Prop := fun x xs H Q => ∃ μ h o us, RH K μ H h ∧ RM K μ H o x ∧ RMs K μ H us xs ∧ Pst K μ H EX (RM K) (mtV m o us h) Q
section
variable {K : PySem.W.Frag} {μ μ1 μ2 μ' ν : List Addr} {H H1 H2 H' : AH} {h h' : MHp} {EX : String → AH → Prop}
theorem RH.lst {n : Nat} {a : Addr} {xs : List MV} (R : RH K μ H h) (e : h[n]? = some (.lst xs)) (ea : μ[n]? = some a) : ∃ vs, H a = some (.lst vs) ∧ RMs K μ H xs vs := by
  have r := R.at_ n _ a e ea
  cases r with
  | lst e1 r1 => exact ⟨_, e1, r1⟩
theorem rcv_ty {m : Mt} {o : MV} {x : V} (R : RH K μ H h) (r : RM K μ H o x) (e : rcvOk m o h = true) : L2.tyV K (mtT m) x H := by
  have go : ∀ {n : Nat} {a : Addr}, μ[n]? = some a → (match h[n]? with | some (.lst _) => true | _ => false) = true → L2.tyV K "list" (.ref a) H := fun {n a} ea e => by
    split at e
    · rename_i xs e1
      obtain ⟨vs, q, _⟩ := R.lst e1 ea
      exact .inl ⟨rfl, vs, SqL.of q⟩
    · cases e
  unfold rcvOk at e
  split at e
  · cases r; rfl
  · cases r with | ref ea => exact go ea e
  · cases r with | ref ea => exact go ea e
  · cases r with | ref ea => exact go ea e
  · cases r with | ref ea => exact go ea e
  · cases e
theorem RMs.dropLast {xs : List MV} {vs : List V} (r : RMs K μ H xs vs) : RMs K μ H xs.dropLast vs.dropLast := by
  rw [List.dropLast_eq_take, List.dropLast_eq_take, ← r.length]
  exact r.take _
theorem joinL_ok (s : List Nat) : ∀ ss : List (List Nat), Str.join (ofS s) (ss.map ofS) = ofS (joinL s ss)
  | [] => by rfl
  | [x] => rfl
  | x :: y :: r => by
    have ih := joinL_ok s (y :: r)
    show ofS x ++ ofS s ++ Str.join (ofS s) ((y :: r).map ofS) = ofS (x ++ s ++ joinL s (y :: r))
    rw [ih]
    show Str.mk (x.toArray ++ s.toArray ++ (joinL s (y :: r)).toArray) = Str.mk _
    congr 1
    simp
end
theorem mt_ok {X : Cx} {EX : String → AH → Prop} (m : Mt) : MtR X (mtId m) (rMt X.K EX m) := by
  intro pins s σ H x xs v us Q I rx rxs ⟨μ, h, o, vs, R, ro, rs, p⟩
  unfold mtV at p
  split at p
  · split at p
    case h_2 => exact p.no.elim
    rename_i xs e
    split at p
    case isFalse => exact p.no.elim
    rename_i hz
    obtain ⟨y, rfl, r⟩ := rs.one
    cases ro with
    | ref ea =>
      obtain ⟨ws, q, rr⟩ := R.lst e ea
      obtain ⟨g, R2⟩ := R.set (xs := xs ++ [_]) ea q (rr.append (.cons r .nil))
      exact mt_append pins s σ H _ _ v us Q I rx rxs ⟨_, _, _, rfl, rfl, q, by rw [← rr.length, ← big_eq]; exact hz, p _ _ _ g R2 .non⟩
  · split at p
    case h_2 => exact p.no.elim
    rename_i xs e
    split at p
    case h_2 => exact p.no.elim
    rename_i y ey
    cases rs
    cases ro with
    | ref ea =>
      obtain ⟨ws, q, rr⟩ := R.lst e ea
      obtain ⟨g, R2⟩ := R.set (xs := xs.dropLast) ea q rr.dropLast
      rw [List.getLast?_eq_getElem?] at ey
      obtain ⟨z, ez, rz⟩ := rr.get ey
      refine mt_pop pins s σ H _ _ v us Q I rx rxs ⟨_, _, z, rfl, rfl, q, by rw [← rr.length]; exact ez, p _ _ _ g R2 (rz.gr g)⟩
  · split at p
    case h_2 => exact p.no.elim
    rename_i xs ys e e2
    split at p
    case isFalse => exact p.no.elim
    rename_i hz
    obtain ⟨y, rfl, r⟩ := rs.one
    cases ro with
    | ref ea =>
      cases r with
      | ref eb =>
        obtain ⟨ws, q, rr⟩ := R.lst e ea
        obtain ⟨zs, q2, rr2⟩ := R.elems e2 eb
        obtain ⟨g, R2⟩ := R.set (xs := xs ++ ys) ea q (rr.append rr2)
        exact mt_extend pins s σ H _ _ v us Q I rx rxs ⟨_, _, _, _, rfl, rfl, q, q2, by rw [← rr.length, ← rr2.length, ← big_eq]; omega, p _ _ _ g R2 .non⟩
  · split at p
    case h_2 => exact p.no.elim
    rename_i xs e
    cases rs
    cases ro with
    | ref ea =>
      obtain ⟨ws, q, rr⟩ := R.lst e ea
      obtain ⟨g, R2⟩ := R.set (xs := xs.reverse) ea q rr.reverse
      exact mt_reverse pins s σ H _ _ v us Q I rx rxs ⟨_, _, rfl, rfl, q, p _ _ _ g R2 .non⟩
  · split at p
    case h_2 => exact p.no.elim
    rename_i ss e
    split at p
    case isFalse => exact p.no.elim
    rename_i hz
    obtain ⟨y, rfl, r⟩ := rs.one
    cases ro
    obtain ⟨xs, e1, e2⟩ := Option.bind_eq_some_iff.mp e
    obtain ⟨a, ws, rfl, hq, rr⟩ := RM.seqs R r e1
    have := strsL_ok e2 rr
    subst this
    refine mt_join pins s σ H _ _ v us Q I rx rxs ⟨_, _, ss.map ofS, rfl, rfl, hq, ?_, ?_⟩
    · rw [List.map_map, List.length_map, ofS_len]
      have e3 : (Str.length ∘ ofS) = List.length := funext fun s => ofS_len s
      rw [e3]; exact hz
    · show Q (.str (PySem.Builtin.Str.glued _ _)) H
      rw [StrLaws.glued_eq_join, joinL_ok]
      exact p.ret R (.str _)
  · exact p.no.elim
theorem mt_slot (m : Mt) (h : m ≠ .count ∧ m ≠ .index) : ∃ name : Str, PlainAttrs (mtT m) ∧ Slot (mtT m) name (mtId m) ∧ typeOf (.builtin (mtId m)) = pure (.type "method_descriptor") ∧ name = (match m with | .append => "append" | .pop => "pop" | .extend => "extend" | .reverse => "reverse" | .join => "join" | _ => "") := by
  cases m with
  | append => exact ⟨_, PySem.F.plainAttrs_list, PySem.F.slot_list_append, PySem.F.type_list_append, rfl⟩
  | pop => exact ⟨_, PySem.F.plainAttrs_list, PySem.F.slot_list_pop, PySem.F.type_list_pop, rfl⟩
  | extend => exact ⟨_, PySem.F.plainAttrs_list, PySem.F.slot_list_extend, PySem.F.type_list_extend, rfl⟩
  | reverse => exact ⟨_, PySem.F.plainAttrs_list, PySem.F.slot_list_reverse, PySem.F.type_list_reverse, rfl⟩
  | join => exact ⟨_, PySem.F.plainAttrs_str, PySem.F.slot_str_join, PySem.F.type_str_join, rfl⟩
  | count => exact absurd rfl h.1
  | index => exact absurd rfl h.2
/-! ### subscripts -/
def rIxM (K : PySem.W.Frag) (EX : String → AH → Prop) : R2 := fun x y H Q => ∃ μ h u v, RH K μ H h ∧ RM K μ H u x ∧ RM K μ H v y ∧ Pst K μ H EX (RM K) (idxV u v h) Q
theorem atI_rel {K : PySem.W.Frag} {μ : List Addr} {H : AH} {xs : List MV} {vs : List V} {i : Int} {x : MV} (r : RMs K μ H xs vs) (e : MP.atI xs i = some x) : ∃ v, L2.atI vs i = some v ∧ RM K μ H x v := by
  unfold MP.atI at e
  obtain ⟨j, e1, e2⟩ := Option.bind_eq_some_iff.mp e
  obtain ⟨v, q, rv⟩ := r.get e2
  refine ⟨v, ?_, rv⟩
  have e1 : L2.ixN vs.length i = some j := by rw [← r.length]; exact e1
  unfold L2.atI
  rw [e1]
  exact q
theorem ix_ok {X : Cx} {EX : String → AH → Prop} : IxR X (rIxM X.K EX) := by
  intro value slice pins s σ H x y v u Q I rx ry ⟨μ, h, a, b, R, ra, rb, p⟩ hs
  unfold idxV at p
  split at p
  · split at p
    case isFalse => exact p.no.elim
    rename_i hz
    split at p
    case h_2 => exact p.no.elim
    rename_i c e
    cases ra; cases rb
    refine ix_str value slice pins s σ H _ _ v u Q I rx ry ⟨_, _, c, rfl, rfl, by rw [ofS_len, ← big_eq]; exact hz, ?_, p.ret R (.str _)⟩ hs
    show L2.atI (List.toArray _).toList _ = _
    rw [List.toList_toArray]
    exact e
  · split at p
    case h_2 => exact p.no.elim
    rename_i xs e
    split at p
    case h_2 => exact p.no.elim
    rename_i z e2
    cases rb
    obtain ⟨c, ws, rfl, hq, rr⟩ := RM.seqs R ra e
    obtain ⟨w, ew, rw_⟩ := atI_rel rr e2
    rcases hq with hq | hq
    · exact ix_list value slice pins s σ H _ _ v u Q I rx ry ⟨_, _, _, _, rfl, rfl, hq, ew, p.ret R rw_⟩ hs
    · exact ix_tup value slice pins s σ H _ _ v u Q I rx ry ⟨_, _, _, _, rfl, rfl, hq, ew, p.ret R rw_⟩ hs
  · exact p.no.elim
def rSlM (K : PySem.W.Frag) (EX : String → AH → Prop) : V → Option Int → Option Int → AH → VK → Prop := fun x lo hi H Q => ∃ μ h u, RH K μ H h ∧ RM K μ H u x ∧ Pst K μ H EX (RM K) (slcV u lo hi h) Q
theorem sIx_eq (n d : Nat) (o : Option Int) : HT.sIx n d o = MP.sIx n d o := by cases o <;> rfl
theorem cut_rel {K : PySem.W.Frag} {μ : List Addr} {H : AH} {xs : List MV} {vs : List V} (lo hi : Option Int) (r : RMs K μ H xs vs) : RMs K μ H (cutL xs lo hi) (cutV vs lo hi) := by
  unfold cutL cutV
  rw [sIx_eq, sIx_eq, ← r.length]
  exact (r.drop _).take _
theorem cut_whole {α : Type} (xs : List α) (lo hi : Option Int) (h : MP.sIx xs.length 0 lo = 0 ∧ MP.sIx xs.length xs.length hi = xs.length) : cutL xs lo hi = xs := by
  unfold cutL
  rw [h.1, h.2, List.drop_zero, Nat.sub_zero, List.take_length]
theorem sl_ok {X : Cx} {EX : String → AH → Prop} : SlR X (rSlM X.K EX) := by
  intro pins s σ H x v vl vu lo hi sl Q I rx hs pl pu ⟨μ, h, a, R, ra, p⟩
  unfold slcV at p
  split at p
  · split at p
    case isFalse => exact p.no.elim
    rename_i str hz
    cases ra
    refine sl_str pins s σ H _ v vl vu lo hi sl Q I rx hs pl pu ⟨_, rfl, by rw [ofS_len, ← big_eq]; exact hz, ?_⟩
    have e : cutS (ofS str) lo hi = ofS (cutL str lo hi) := by
      unfold cutS cutL
      rw [sIx_eq, sIx_eq, ofS_len]
      rfl
    rw [e]
    exact p.ret R (.str _)
  · cases ra with
    | tup sa r =>
      rename_i xs vs c
      refine sl_tupA pins s σ H _ v vl vu lo hi sl Q I rx hs pl pu ⟨_, _, rfl, SqT.of sa, fun w => ?_, fun _ q hq => p.newT R (cut_rel lo hi r) hq⟩
      rw [sIx_eq, sIx_eq, ← r.length] at w
      rw [cut_whole _ _ _ w] at p
      exact p.ret R (.tup sa r)
  · split at p
    case h_2 => exact p.no.elim
    rename_i xs e
    obtain ⟨c, ws, rfl, hq, rr⟩ := RM.elems R ra e
    exact sl_list pins s σ H _ v vl vu lo hi sl Q I rx hs pl pu ⟨_, _, rfl, hq, fun q hq => p.new R (cut_rel lo hi rr) hq⟩
/-! ### o[i] = v -/
def rSetM (K : PySem.W.Frag) : TSet := fun o i v H Q => ∃ μ h a b c h', RH K μ H h ∧ RM K μ H a o ∧ RM K μ H b i ∧ RM K μ H c v ∧ subV a b c h = some h' ∧ ∀ H', Gr μ μ H H' → RH K μ H' h' → Q H'
theorem set_ok {X : Cx} : PSet X (rSetM X.K) := by
  intro pins s σ H o i v ov iv u Q I ro ri rv ⟨μ, h, a, b, c, h', R, ra, rb, rc, e, q⟩
  unfold subV at e
  split at e
  case h_2 => cases e
  split at e
  case h_2 => cases e
  rename_i xs e1
  split at e
  case h_2 => cases e
  rename_i j ej
  cases e
  cases rb
  cases ra with
  | ref ea =>
    obtain ⟨ws, hw, rr⟩ := R.lst e1 ea
    obtain ⟨g, R2⟩ := R.set (xs := xs.set j c) ea hw (RMs.set rc j rr)
    exact set_list pins s σ H _ _ v ov iv u Q I ro ri rv ⟨_, _, _, j, rfl, rfl, hw, by rw [← rr.length]; exact ej, q _ g R2⟩
/-! ### isinstance -/
theorem tyV_ok {K : PySem.W.Frag} {μ : List Addr} {H : AH} {h : MHp} {a : MV} {x : V} {t : String} (R : RH K μ H h) (r : RM K μ H a x) (e : MP.tyV h a = some t) (hf : ∀ b vs, SqF K H b vs → TyX K H (.ref b) (.type "list")) : TyX K H x (.type t) := by
  cases r with
  | non => cases e; exact .base .non
  | bl _ => cases e; exact .base (.bl _)
  | int _ => cases e; exact .base (.int _)
  | str _ => cases e; exact .base (.str _)
  | tup s r => cases e; exact .base (.tup s)
  | rol s r => cases e; exact hf _ _ s
  | ref ea =>
    rename_i n b
    have e : (match h[n]? with | some (.lst _) => some "list" | none => none) = some t := e
    split at e
    · cases e
      rename_i xs e1
      obtain ⟨vs, q, _⟩ := R.lst e1 ea
      exact .base (.lst q)
    · cases e
theorem SqF.ty {K : PySem.W.Frag} {H : AH} {b : Addr} {vs : List V} (s : SqF K H b vs) : TyX K H (.ref b) (.type "list") := by
  rcases s.1 with (q | ⟨o, q⟩) | ⟨o, its, n, h1, h2, _⟩
  · exact .base (.lst q)
  · exact .base (.frz q)
  · exact .kList h1 h2
end MP
/-! MP8: my texts stand for Python's expressions. -/
namespace MP
open PySem PySem.Spec PyProof.Rows L2
/-! ### the look: does my text stand for this one? -/
structure Lk where
  N : List Str
  dn : List String
  cs : List (String × List Nat)
def visB (sc : Scope) (x : Str) : Bool := (match sc.names.lookup x with | some .local => true | some .cell => true | some .free => true | _ => false) && (x == ("__debug__" : Str)) == false && (x == ("__classdict__" : Str)) == false
def locB (sc : Scope) (x : Str) : Bool := (match sc.names.lookup x with | some .local => true | some .cell => true | _ => false)
def glB (sc : Scope) (x : Str) : Bool := (match sc.names.lookup x with | some .globalImplicit => true | _ => false) && (x == ("__debug__" : Str)) == false && decide (x ≠ "__name__")
def opB : Op2 → Operator → Bool
  | .add, .Add => true | .sub, .Sub => true | .mul, .Mult => true | .fdiv, .FloorDiv => true | .mod, .Mod => true | .pow, .Pow => true
  | _, _ => false
theorem opB_ok {a : Op2} {b : Operator} (h : opB a b = true) : b = opOf a := by cases a <;> cases b <;> first | rfl | cases h
def cmpB : Cmp → CmpOp → Bool
  | .eq, .Eq => true | .ne, .NotEq => true | .lt, .Lt => true | .le, .LtE => true | .gt, .Gt => true | .ge, .GtE => true | .isin, .In => true | .notin, .NotIn => true | .is_, .Is => true | .isnot, .IsNot => true
  | _, _ => false
theorem cmpB_ok {a : Cmp} {b : CmpOp} (h : cmpB a b = true) : b = cmpOf a := by cases a <;> cases b <;> first | rfl | cases h
def biName : Bi → Str
  | .len => "len" | .abs => "abs" | .sum => "sum" | .min => "min" | .max => "max" | .int => "int" | .list => "list" | .tuple => "tuple" | .sorted => "sorted" | .all => "all" | .any => "any" | .divmod => "divmod" | .str => "str" | .repr => "repr"
def mtName : Mt → Str
  | .append => "append" | .pop => "pop" | .extend => "extend" | .reverse => "reverse" | .join => "join" | _ => ""
def tyNames : List (String × Str) := [("int", "int"), ("bool", "bool"), ("str", "str"), ("tuple", "tuple"), ("list", "list")]
def bltNames : List Str := ["len", "abs", "sum", "min", "max", "int", "list", "tuple", "sorted", "all", "any", "divmod", "str", "repr", "bool", "isinstance", "range", "enumerate", "zip", "reversed"]
def isNone {α : Type} : Option α → Bool | none => true | some _ => false
def targ (N : List Str) (sc : Scope) : T → Expr → Bool
  | .name i, .Name x _ => decide (N[i]? = some x) && locB sc x
  | .tup is, .Tuple es _ _ => go is es
  | _, _ => false
where go : List Nat → List Expr → Bool
  | [], [] => true
  | i :: is, .Name x _ :: es => decide (N[i]? = some x) && locB sc x && go is es
  | _, _ => false
def ownOf (N : List Str) : T → List (Str × Nat)
  | .name i => match N[i]? with | some x => [(x, i)] | none => []
  | .tup is => is.filterMap fun i => match N[i]? with | some x => some (x, i) | none => none
def ixB : Expr → Bool | .Slice .. => false | .Tuple .. => false | _ => true
def isTup : Expr → Bool | .Tuple .. => true | _ => false
mutual
def chkE (L : Lk) (sc : Scope) : E → Expr → Bool
  | .non, .Constant .none _ _ => true
  | .bl b, .Constant (.bool c) _ _ => b == c
  | .int i, .Constant (.int j) _ _ => decide (j = i)
  | .str s, .Constant (.str x) _ _ => decide (x = ofS s)
  | .var i, .Name x _ => decide (L.N[i]? = some x) && visB sc x
  | .glb x s, .Name y _ => decide (y = Str.ofString x) && glB sc y && decide ((x, s) ∈ L.cs)
  | .bin op a b, .BinOp l o r _ => opB op o && (chkE L sc a l && chkE L sc b r)
  | .neg a, .UnaryOp o e _ => (match o with | .USub => true | _ => false) && chkE L sc a e
  | .not a, .UnaryOp o e _ => (match o with | .Not => true | _ => false) && chkE L sc a e
  | .and es, .BoolOp o l _ => (match o with | .And => true | _ => false) && chkEs L sc es l
  | .or es, .BoolOp o l _ => (match o with | .Or => true | _ => false) && chkEs L sc es l
  | .cmp op a b, .Compare l [o] [r] _ => cmpB op o && (chkE L sc a l && chkE L sc b r)
  | .chn a c, .Compare l os rs _ => chkE L sc a l && chkCh L sc c os rs
  | .ite c a b, .IfExp t x y _ => chkE L sc c t && (chkE L sc a x && chkE L sc b y)
  | .tup es, .Tuple l _ _ => chkEs L sc es l
  | .lst es, .List l _ => chkEs L sc es l
  | .call f es, .Call (.Name x _) l [] _ => decide (x = Str.ofString f) && glB sc x && decide (f ∈ L.dn) && decide (l ≠ []) && chkEs L sc es l
  | .bi b es, .Call (.Name x _) l [] _ => decide (x = biName b) && glB sc x && decide (l ≠ []) && chkEs L sc es l
  | .isi a t, .Call (.Name x _) [e, .Name y _] [] _ => decide (x = "isinstance") && glB sc x && glB sc y && decide ((t, y) ∈ tyNames) && chkE L sc a e
  | .meth m o es, .Call (.Attribute r x apos) l [] pos => decide (x = mtName m) && decide (m ≠ .count ∧ m ≠ .index) && (apos.endLine == pos.line) && decide (l.length < 29) && (chkE L sc o r && chkEs L sc es l)
  | .idx a i, .Subscript x y _ => ixB y && (chkE L sc a x && chkE L sc i y)
  | .slc a lo hi, .Subscript x (.Slice l h none _) _ => chkE L sc a x && (chkO L sc lo l && chkO L sc hi h)
  | .comp elt t it c, .ListComp x [⟨tg, iter, ifs, 0⟩] scope _ => blkC L.N sc scope (ownOf L.N t) && (targ L.N scope t tg && (chkI L sc it iter tg && (chkC L (relS scope sc) c ifs && chkE L (relS scope sc) elt x)))
  | _, _ => false
def chkEs (L : Lk) (sc : Scope) : Es → List Expr → Bool
  | .nil, [] => true
  | .cons e es, x :: l => chkE L sc e x && chkEs L sc es l
  | _, _ => false
def chkO (L : Lk) (sc : Scope) : Eo → Option Expr → Bool
  | .none, none => true
  | .some e, some x => chkE L sc e x
  | _, _ => false
def chkC (L : Lk) (sc : Scope) : Eo → List Expr → Bool
  | .none, [] => true
  | .some e, [x] => chkE L sc e x
  | _, _ => false
def chkCh (L : Lk) (sc : Scope) : Ch → List CmpOp → List Expr → Bool
  | .one op b, [o], [r] => cmpB op o && chkE L sc b r
  | .more op b c, o :: os, r :: rs => cmpB op o && (chkE L sc b r && chkCh L sc c os rs)
  | _, _, _ => false
def chkI (L : Lk) (sc : Scope) : Ik → Expr → Expr → Bool
  | .val e, x, _ => chkE L sc e x
  | .rng1 a, .Call (.Name x _) [p] [] _, _ => decide (x = "range") && glB sc x && chkE L sc a p
  | .rng2 a b, .Call (.Name x _) [p, q] [] _, _ => decide (x = "range") && glB sc x && (chkE L sc a p && chkE L sc b q)
  | .rng3 a b c, .Call (.Name x _) [p, q, r] [] _, _ => decide (x = "range") && glB sc x && (chkE L sc a p && (chkE L sc b q && chkE L sc c r))
  | .enum e, .Call (.Name x _) [p] [] _, tg => decide (x = "enumerate") && glB sc x && isTup tg && chkE L sc e p
  | .zip a b, .Call (.Name x _) [p, q] [] _, tg => decide (x = "zip") && glB sc x && isTup tg && (chkE L sc a p && chkE L sc b q)
  | .rev e, .Call (.Name x _) [p] [] _, _ => decide (x = "reversed") && glB sc x && chkE L sc e p
  | .revr a b, .Call (.Name x _) [.Call (.Name y _) l [] _] [] _, _ => decide (x = "reversed") && glB sc x && decide (y = "range") && glB sc y && (match l with
    | [q] => (match a with | .int i => decide (i = 0) | _ => false) && chkE L sc b q
    | [p, q] => chkE L sc a p && chkE L sc b q
    | _ => false)
  | _, _, _ => false
end
/-! ### the context -/
abbrev NoX : String → AH → Prop := fun _ _ => False
def spOf (K : PySem.W.Frag) (C : Ora) (f : String) : Sp := fun vs H Q _ => ∃ μ h us, RH K μ H h ∧ RMs K μ H us vs ∧ Pst K μ H NoX (RM K) (C f us h) Q
def CallOk (X : Cx) (C : Ora) (f : String) : Prop := ∃ (a : Addr) (fd : FuncData) (ps : List Str) (k : Nat), FnOk X.prog X.w X.K X.mg X.base CX0 k a fd ps (spOf X.K C f) ∧ Room k X.A ∧ X.mg (Str.ofString f) = some (.ref a) ∧ PySem.W.keepIn X.K (.ref a) = true ∧ Binds X.K fd ps []
structure Gd (L : Lk) (sc : Scope) (C : Ora) (X : Cx) : Prop where
  N_ : X.N = L.N
  nd : L.N.Nodup
  sc_ : X.env.scope = sc
  kf : sc.kind = .function
  calm : X.calm = true
  hu : X.A.units + 65 < cLine
  hp : PassesOwn (model X.prog X.w) X.A X.env X.xe
  blt : ∀ x ∈ bltNames, X.mg x = none
  glb : ∀ x s, (x, s) ∈ L.cs → ∃ t, X.mg (Str.ofString x) = some (.str (ofS s) t)
  fns : ∀ f ∈ L.dn, CallOk X C f
/-! ### readings -/
def tE (K : PySem.W.Frag) (C : Ora) (m : E) : TE := fun σ H Q => ∃ μ h ρ, RH K μ H h ∧ RE K μ H ρ σ ∧ Pst K μ H NoX (RM K) (evE C ρ m h) Q
abbrev RB : List Addr → AH → Bool → Bool → Prop := fun _ _ a b => a = b
def tT (K : PySem.W.Frag) (C : Ora) (m : E) : TT := fun σ H Q => ∃ μ h ρ, RH K μ H h ∧ RE K μ H ρ σ ∧ Pst K μ H NoX RB (bnd (evE C ρ m h) asB) Q
def tEs (K : PySem.W.Frag) (C : Ora) (es : Es) : TA := fun σ H Q => ∃ μ h ρ, RH K μ H h ∧ RE K μ H ρ σ ∧ Pst K μ H NoX (RMs K) (evEs C ρ es h) Q
section
variable {X : Cx} {e : Expr}
theorem wkE {t t' : TE} (h : PE X e t) (w : ∀ σ H Q, t' σ H Q → t σ H Q) : PE X e t' := ⟨fun pins s σ H Q I q => h.run pins s σ H Q I (w σ H Q q)⟩
theorem wkT {t t' : TT} (h : PT X e t) (w : ∀ σ H Q, t' σ H Q → t σ H Q) : PT X e t' := ⟨fun pins s σ H Q I q => h.run pins s σ H Q I (w σ H Q q)⟩
theorem wkW {t t' : TT} (h : PW X e t) (w : ∀ σ H Q, t' σ H Q → t σ H Q) : PW X e t' := ⟨fun wh pins s σ H Q I q => h.run wh pins s σ H Q I (w σ H Q q)⟩
theorem wkA {es : List Expr} {t t' : TA} (h : PA X es t) (w : ∀ σ H Q, t' σ H Q → t σ H Q) : PA X es t' := ⟨fun pos pins s σ H Q I q => h.run pos pins s σ H Q I (w σ H Q q)⟩
variable {K : PySem.W.Frag} {C : Ora} {μ : List Addr} {H : AH} {h : MHp}
theorem Pst.asB {o : O MV} {Q : Bool → AH → Prop} (p : Pst K μ H NoX RB (bnd o MP.asB) Q) : Pst K μ H NoX (RM K) o fun x H1 => ∃ c, x = .bl c ∧ Q c H1 := by
  unfold Pst at *
  cases o with
  | none => exact p
  | some q => cases q with
    | ex c h => exact p
    | ok v h =>
      intro μ' H' z g R r
      cases r with
      | bl b => exact ⟨b, rfl, p μ' H' b g R rfl⟩
      | non => exact p.elim
      | int _ => exact p.elim
      | str _ => exact p.elim
      | tup _ _ => exact p.elim
      | rol _ _ => exact p.elim
      | ref _ => exact p.elim
/-- an expression's test, where it has no own form -/
theorem val_test {m : E} (hE : PE X e (tE X.K C m)) (he : ∀ whole, isTrue e X.env whole = (do let v ← whole; standAt e.pos; holding [v] (truthy v))) : PT X e (tT X.K C m) :=
  wkT (pt_val hE he) fun σ H Q ⟨μ, h, ρ, R, r, p⟩ => ⟨μ, h, ρ, R, r, p.asB⟩
end
end MP
/-! MP9: expressions, by induction over my text. -/
namespace MP
open PySem PySem.Spec PyProof.Rows L2
section
variable {L : Lk} {sc : Scope} {C : Ora} {X : Cx}
theorem ba {a b : Bool} (h : (a && b) = true) : a = true ∧ b = true := Bool.and_eq_true_iff.mp h
theorem Gd.vis (G : Gd L sc C X) {x : Str} (h : visB sc x = true) : Vis X.env.scope x ∧ (x == ("__debug__" : Str)) = false ∧ (x == ("__classdict__" : Str)) = false := by
  unfold visB at h
  obtain ⟨h1, h2⟩ := ba h
  obtain ⟨h1, h3⟩ := ba h1
  rw [G.sc_]
  refine ⟨?_, by simpa using h3, by simpa using h2⟩
  split at h1
  · rename_i e; exact .inl e
  · rename_i e; exact .inr (.inl e)
  · rename_i e; exact .inr (.inr e)
  · cases h1
theorem Gd.gl (G : Gd L sc C X) {x : Str} (h : glB sc x = true) : Gl X x ∧ (x == ("__debug__" : Str)) = false ∧ x ≠ "__name__" := by
  unfold glB at h
  obtain ⟨h1, h2⟩ := ba h
  obtain ⟨h1, h3⟩ := ba h1
  refine ⟨?_, by simpa using h3, of_decide_eq_true h2⟩
  show X.env.scope.names.lookup x = _
  rw [G.sc_]
  split at h1
  · assumption
  · cases h1
theorem star_ok {m : E} {e : Expr} (h : chkE L sc m e = true) (es : List Expr) (env : Env) : starEach (e :: es) env = (false, eval e env) :: starEach es env := by
  cases e <;> first | rfl | (exfalso; cases m <;> (unfold chkE at h; cases h))
theorem stars_ok : ∀ {es : Es} {l : List Expr} (env : Env), chkEs L sc es l = true → (starEach l env).all (fun x => !x.1) = true ∧ (starEach l env).length = l.length
  | .nil, [], env, _ => ⟨rfl, rfl⟩
  | .cons e es, x :: l, env, h => by
    unfold chkEs at h
    obtain ⟨h1, h2⟩ := ba h
    obtain ⟨k1, k2⟩ := stars_ok env h2
    rw [star_ok h1]
    exact ⟨by simp only [List.all_cons, k1]; rfl, by simp only [List.length_cons, k2]⟩
  | .nil, _ :: _, _, h => by unfold chkEs at h; cases h
  | .cons _ _, [], _, h => by unfold chkEs at h; cases h
theorem back_any (pos : Pos) : ∀ {l : List (Bool × Sem Value)}, l.all (fun x => !x.1) = true → (backTo pos l).any (·.1) = false := by
  intro l h
  unfold backTo
  rw [List.any_map]
  rw [List.any_eq_false]
  intro x hx
  have := List.all_eq_true.mp h x hx
  simpa using this

variable {K : PySem.W.Frag} {μ μ1 : List Addr} {H H1 : AH} {h : MHp}
/-- one step, then the rest, from a base that stays -/
theorem Pst.seq {α β γ δ : Type} {R1 : List Addr → AH → α → γ → Prop} {R2 : List Addr → AH → β → δ → Prop} {o : O α} {f : α → MHp → O β} {Q : δ → AH → Prop} {Q' : γ → AH → Prop}
    (p : Pst K μ H NoX R2 (bnd o f) Q) (g : Gr μ μ1 H H1)
    (k : ∀ z H2 μ2 h2 r, Gr μ1 μ2 H1 H2 → RH K μ2 H2 h2 → R1 μ2 H2 r z → Pst K μ H NoX R2 (f r h2) Q → Q' z H2) : Pst K μ1 H1 NoX R1 o Q' := by
  unfold Pst at *
  cases o with
  | none => exact p
  | some q => cases q with
    | ok a h => exact fun μ' H' z g' R r => k z H' μ' h a g' R r p
    | ex c h => exact fun μ' H' g' R => p μ' H' (g.trans g') R
theorem SPst.seq {α γ : Type} {R1 : List Addr → AH → α → γ → Prop} {o : O α} {f : α → MHp → O F} {D : Ends} {Q' : γ → AH → Prop}
    (p : SPst K μ H NoX (bnd o f) D) (g : Gr μ μ1 H H1)
    (k : ∀ z H2 μ2 h2 r, Gr μ1 μ2 H1 H2 → RH K μ2 H2 h2 → R1 μ2 H2 r z → SPst K μ H NoX (f r h2) D → Q' z H2) : Pst K μ1 H1 NoX R1 o Q' := by
  unfold Pst
  cases o with
  | none => exact p
  | some q => cases q with
    | ok a h => exact fun μ' H' z g' R r => k z H' μ' h a g' R r p
    | ex c h => exact fun μ' H' g' R => p μ' H' (g.trans g') R
theorem asB_bl' {v : MV} {f : Bool → MHp → O MV} {Q : VK} {h2 : MHp} (p : Pst K μ H NoX (RM K) (bnd (asB v h2) f) Q) : ∃ b, v = .bl b ∧ Pst K μ H NoX (RM K) (f b h2) Q := by
  cases v with
  | bl b => exact ⟨b, rfl, p⟩
  | _ => exact p.elim
theorem Pst.asBok {v : MV} {z : V} {h : MHp} {Q : Bool → AH → Prop} (p : Pst K μ H NoX RB (MP.asB v h) Q) (g : Gr μ μ1 H H1) (R : RH K μ1 H1 h) (r : RM K μ1 H1 v z) : ∃ c, z = .bl c ∧ Q c H1 := by
  cases r with
  | bl b => exact ⟨b, rfl, p μ1 H1 b g R rfl⟩
  | non => exact p.elim
  | int _ => exact p.elim
  | str _ => exact p.elim
  | tup _ _ => exact p.elim
  | rol _ _ => exact p.elim
  | ref _ => exact p.elim
/-- a value's test -/
theorem vT {m : E} {e : Expr} (hE : PE X e (tE X.K C m)) (he : ∀ whole, isTrue e X.env whole = (do let v ← whole; standAt e.pos; holding [v] (truthy v))) : PE X e (tE X.K C m) ∧ PT X e (tT X.K C m) := ⟨hE, val_test hE he⟩
theorem boot_of (b : Bi) : bootBuiltins (biName b) = some (fOf b) := by cases b <;> decide +kernel
theorem bi_mem (b : Bi) : biName b ∈ bltNames := by cases b <;> decide +kernel
def bil : Bi → String ⊕ String
  | .int => .inr "int" | .list => .inr "list" | .tuple => .inr "tuple" | .str => .inr "str"
  | .len => .inl "len" | .abs => .inl "abs" | .sum => .inl "sum" | .min => .inl "min" | .max => .inl "max" | .sorted => .inl "sorted" | .all => .inl "all" | .any => .inl "any" | .divmod => .inl "divmod" | .repr => .inl "repr"
theorem fOf_bil (b : Bi) : fOf b = match bil b with | .inl s => .builtin s | .inr s => .type s := by cases b <;> rfl
theorem cutP {α : Type} {l : List α} (h : l ≠ []) : ∃ x r, l = x :: r := by
  cases l with
  | nil => exact absurd rfl h
  | cons x r => exact ⟨x, r, rfl⟩
def rIsiM (K : PySem.W.Frag) (t : String) (y : V) : Prop := True
theorem kit_all (a b : String) (ha : a = "NoneType" ∨ a = "bool" ∨ a = "int" ∨ a = "str" ∨ a = "tuple" ∨ a = "list") (hb : b = "int" ∨ b = "bool" ∨ b = "str" ∨ b = "tuple" ∨ b = "list") {K : PySem.W.Frag} : PySem.W.kitOne K (.type a) (.type b) = some (isiV a b) := by
  rcases ha with rfl | rfl | rfl | rfl | rfl | rfl <;> rcases hb with rfl | rfl | rfl | rfl | rfl <;> exact kit_ty (by decide +kernel)
theorem tyV_mem {h : MHp} {v : MV} {t : String} (e : MP.tyV h v = some t) : t = "NoneType" ∨ t = "bool" ∨ t = "int" ∨ t = "str" ∨ t = "tuple" ∨ t = "list" := by
  cases v with
  | ref n =>
    have e : (match h[n]? with | some (.lst _) => some "list" | none => none) = some t := e
    split at e
    · cases e; simp
    · cases e
  | _ => cases e; simp
theorem ty_boot {t : String} {y : Str} (h : (t, y) ∈ tyNames) : bootBuiltins y = some (.type t) ∧ y ∈ bltNames ∧ (t = "int" ∨ t = "bool" ∨ t = "str" ∨ t = "tuple" ∨ t = "list") := by
  unfold tyNames at h
  simp only [List.mem_cons, Prod.mk.injEq, List.not_mem_nil, or_false] at h
  rcases h with ⟨rfl, rfl⟩ | ⟨rfl, rfl⟩ | ⟨rfl, rfl⟩ | ⟨rfl, rfl⟩ | ⟨rfl, rfl⟩ <;> exact ⟨by decide +kernel, by decide +kernel, by simp⟩
end
end MP
/-! MP10: what is walked. -/
namespace MP
open PySem PySem.Spec PyProof.Rows L2
section
variable {K : PySem.W.Frag} {μ μ1 μ2 : List Addr} {H H1 H2 : AH} {h h1 : MHp} {C : Ora} {X : Cx}
/-- a source lies at a, as a list or a tuple (q) -/
def RS (K : PySem.W.Frag) (Sq : AH → Addr → List V → Prop) (μ : List Addr) (H : AH) (s : Src) (a : Addr) : Prop :=
  ∀ μ' H' h', Gr μ μ' H H' → RH K μ' H' h' → ∀ xs, s.get h' = some xs → ∃ vs, Sq H' a vs ∧ RMs K μ' H' xs vs
def RI (K : PySem.W.Frag) (μ : List Addr) (H : AH) (its : Items) (J : It) : Prop := ∀ μ' H' h', Gr μ μ' H H' → RH K μ' H' h' → ∀ i,
  (∀ v, itemI h' i its = some v → J.go i H' ∧ ∀ x H2, J.yld i H' x H2 → Gr μ' μ' H' H2 ∧ RH K μ' H2 h' ∧ RM K μ' H2 v x) ∧ (lenI h' its = some i → J.stop i H')
def tI (K : PySem.W.Frag) (C : Ora) (m : Ik) : TI := fun σ H R => ∃ μ h ρ, RH K μ H h ∧ RE K μ H ρ σ ∧ Pst K μ H NoX (RI K) (evI C ρ m h) R
theorem take_RH (R1 : RH K μ1 H1 h1) (g : Gr μ μ1 H H1) (lo : loH μ.length (h1.take μ.length) = true) : RH K μ H1 (h1.take μ.length) := by
  obtain ⟨t, rfl⟩ := g.pre
  have hl : μ.length ≤ h1.length := by rw [← R1.len, List.length_append]; omega
  refine ⟨by rw [List.length_take]; omega, (List.nodup_append.mp R1.nd).1, fun n o a e1 e2 => ?_⟩
  have hn : n < μ.length := (List.getElem?_eq_some_iff.mp e2).1
  have e3 := e1
  rw [List.getElem?_take_of_lt hn] at e1
  have r := R1.at_ n o a e1 (by rw [List.getElem?_append_left hn]; exact e2)
  have lo1 := loH_get lo e3
  cases r with
  | lst e r =>
    refine .lst e (RMs.loOk (n := μ.length) (fun r a hr e => ?_) lo1 r)
    rw [List.getElem?_append_left hr] at e
    exact e
/-- the values of a source -/
theorem src_ok {v : MV} {x : V} {Q : It → AH → Prop} {f : Src × Nat → MHp → O Items} (R : RH K μ H h) (g : Gr μ μ1 H H1) (R1 : RH K μ1 H1 h1) (r : RM K μ1 H1 v x) (p : Pst K μ H NoX (RI K) (bnd (srcOf h.length v h1) f) Q) :
    (∃ a s k h2 μ2, x = .ref a ∧ Gr μ μ2 H H1 ∧ RH K μ2 H1 h2 ∧ (∃ vs, SqL K H1 a vs ∧ vs.length = k) ∧ RS K (SqL K) μ2 H1 s a ∧ s.get h2 ≠ none ∧ Pst K μ H NoX (RI K) (f (s, k) h2) Q ∧ (∃ n, v = .ref n ∨ ∃ xs, v = .rol xs)) ∨
    (∃ a s k h2, x = .ref a ∧ RH K μ1 H1 h2 ∧ (∃ vs, SqT K H1 a vs ∧ vs.length = k) ∧ RS K (SqT K) μ1 H1 s a ∧ Pst K μ H NoX (RI K) (f (s, k) h2) Q ∧ ∃ xs, v = .tup xs) ∨
    (∃ t, v = .str t ∧ x = .str (ofS t) ∧ t.length ≤ big ∧ Pst K μ H NoX (RI K) (f (.vals (t.map fun c => .str [c]), t.length) h1) Q) := by
  unfold srcOf at p
  cases r with
  | non => exact p.elim
  | bl _ => exact p.elim
  | int _ => exact p.elim
  | str t =>
    refine .inr (.inr ⟨t, rfl, rfl, ?_⟩)
    by_cases hz : t.length ≤ big
    · simp only [hz, if_true] at p
      exact ⟨hz, p⟩
    · simp only [hz, if_false] at p
      exact p.elim
  | tup s r =>
    rename_i xs vs a
    refine .inr (.inl ⟨a, .vals xs, xs.length, h1, rfl, R1, ⟨vs, SqT.of s, r.length.symm⟩, fun μ' H' h' g' R' ys e => ?_, p, xs, rfl⟩)
    cases (show some xs = some ys from e)
    exact ⟨vs, SqT.gr g' (SqT.of s), r.gr g'⟩
  | rol s r =>
    rename_i xs vs a
    refine .inl ⟨a, .vals xs, xs.length, h1, μ1, rfl, g, R1, ⟨vs, s.1, r.length.symm⟩, fun μ' H' h' g' R' ys e => ?_, by simp [Src.get], p, 0, .inr ⟨xs, rfl⟩⟩
    cases (show some xs = some ys from e)
    exact ⟨vs, s.2 _ g'.tp, r.gr g'⟩
  | ref ea =>
    rename_i n a
    cases e : elems h1 (.ref n) with
    | none => simp only [e] at p; exact p.elim
    | some xs =>
      simp only [e] at p
      obtain ⟨vs, q, r⟩ := R1.elems e ea
      split at p
      · rename_i hc
        obtain ⟨c1, c2, c3⟩ := hc
        have hlen : h.length = μ.length := R.len.symm
        rw [hlen] at c1 c2 c3 p
        have R2 := take_RH R1 g c3
        have hna : a ∉ μ := fun hm => by
          obtain ⟨m, hm', em⟩ := List.mem_iff_getElem.mp hm
          have e2 : μ1[m]? = some a := g.at_ (by rw [List.getElem?_eq_getElem hm', em])
          obtain ⟨l1, q1⟩ := List.getElem?_eq_some_iff.mp ea
          obtain ⟨l2, q2⟩ := List.getElem?_eq_some_iff.mp e2
          have := (List.getElem_inj R1.nd).mp (q1.trans q2.symm)
          omega
        have r2 : RMs K μ H1 xs vs := RMs.loOk (n := μ.length) (fun r a hr e => by
          obtain ⟨t, rfl⟩ := g.pre
          rw [List.getElem?_append_left hr] at e
          exact e) c2 r
        refine .inl ⟨a, .vals xs, xs.length, _, μ, rfl, ⟨List.prefix_refl _, g.fr, fun _ h => .inl h, g.tp⟩, R2, ⟨vs, SqL.of q, r.length.symm⟩, fun μ' H' h' g' R' ys e => ?_, by simp [Src.get], p, n, .inl rfl⟩
        cases (show some xs = some ys from e)
        exact ⟨vs, SqL.of (g'.fr _ _ q hna), r2.gr g'⟩
      · refine .inl ⟨a, .obj n, xs.length, h1, μ1, rfl, g, R1, ⟨vs, SqL.of q, r.length.symm⟩, fun μ' H' h' g' R' ys e => ?_, by simp [Src.get, e], p, n, .inl rfl⟩
        obtain ⟨ws, q', r'⟩ := R'.elems e (g'.at_ ea)
        exact ⟨ws, SqL.of q', r'⟩
/-! ### each walk -/
theorem RI.listOne {s : Src} {k : Nat} {a : Addr} (r : RS K (SqL K) μ H s a) : RI K μ H (.one s k) (Itl K a) := by
  intro μ' H' h' g R i
  refine ⟨fun v e => ?_, fun e => ?_⟩
  · obtain ⟨xs, e1, e2⟩ := Option.bind_eq_some_iff.mp (show (s.get h').bind (fun xs => xs[i]?) = some v from e)
    obtain ⟨vs, hs, rr⟩ := r μ' H' h' g R xs e1
    obtain ⟨x, ex, rx⟩ := rr.get e2
    refine ⟨⟨vs, x, hs, ex⟩, fun y H2 hy => ?_⟩
    obtain ⟨rfl, hy⟩ := hy
    have := hy vs hs
    rw [ex] at this
    cases this
    exact ⟨Gr.refl _ _, R, rx⟩
  · have e : (s.get h').map List.length = some i := e
    cases e1 : s.get h' with
    | none => rw [e1] at e; cases e
    | some xs =>
      rw [e1] at e
      obtain ⟨vs, hs, rr⟩ := r μ' H' h' g R xs e1
      have : xs.length = i := Option.some.inj e
      exact ⟨vs, hs, by rw [← rr.length]; omega⟩
theorem RI.tupOne {s : Src} {k : Nat} {a : Addr} (r : RS K (SqT K) μ H s a) : RI K μ H (.one s k) (Itt K a) := by
  intro μ' H' h' g R i
  refine ⟨fun v e => ?_, fun e => ?_⟩
  · obtain ⟨xs, e1, e2⟩ := Option.bind_eq_some_iff.mp (show (s.get h').bind (fun xs => xs[i]?) = some v from e)
    obtain ⟨vs, hs, rr⟩ := r μ' H' h' g R xs e1
    obtain ⟨x, ex, rx⟩ := rr.get e2
    refine ⟨⟨vs, x, hs, ex⟩, fun y H2 hy => ?_⟩
    obtain ⟨rfl, hy⟩ := hy
    have := hy vs hs
    rw [ex] at this
    cases this
    exact ⟨Gr.refl _ _, R, rx⟩
  · have e : (s.get h').map List.length = some i := e
    cases e1 : s.get h' with
    | none => rw [e1] at e; cases e
    | some xs =>
      rw [e1] at e
      obtain ⟨vs, hs, rr⟩ := r μ' H' h' g R xs e1
      have : xs.length = i := Option.some.inj e
      exact ⟨vs, hs, by rw [← rr.length]; omega⟩
theorem RI.strOne {t : List Nat} {k : Nat} : RI K μ H (.one (.vals (t.map fun c => .str [c])) k) (Its (ofS t)) := by
  have hsz : (ofS t).cps.size = t.length := by unfold ofS; rw [List.size_toArray]
  intro μ' H' h' g R i
  refine ⟨fun v e => ?_, fun e => ?_⟩
  · have e : (t.map fun c => MV.str [c])[i]? = some v := e
    rw [List.getElem?_map] at e
    cases e1 : t[i]? with
    | none => rw [e1] at e; cases e
    | some c =>
      rw [e1] at e
      cases (show some (MV.str [c]) = some v from e)
      have hi := (List.getElem?_eq_some_iff.mp e1).1
      refine ⟨by show i < (ofS t).cps.size; rw [hsz]; exact hi, fun y H2 hy => ?_⟩
      obtain ⟨rfl, d, ed, rfl⟩ := hy
      have : (ofS t).cps[i]? = t[i]? := by unfold ofS; rw [List.getElem?_toArray]
      rw [this, e1] at ed
      cases ed
      exact ⟨Gr.refl _ _, R, .str [c]⟩
  · have e : some (t.map fun c => MV.str [c]).length = some i := e
    rw [List.length_map] at e
    show (ofS t).cps.size ≤ i
    rw [hsz]
    have : t.length = i := Option.some.inj e
    omega
theorem RI.ints {l : List MV} {J : It} (k : Nat) (hgo : ∀ i v H', l[i]? = some v → J.go i H' ∧ ∀ x H2, J.yld i H' x H2 → H2 = H' ∧ ∃ z, v = .int z ∧ x = .int z) (hst : ∀ i H', l.length ≤ i → J.stop i H') : RI K μ H (.one (.vals l) k) J := by
  intro μ' H' h' g R i
  refine ⟨fun v e => ?_, fun e => ?_⟩
  · obtain ⟨a, b⟩ := hgo i v H' (show l[i]? = some v from e)
    refine ⟨a, fun x H2 hy => ?_⟩
    obtain ⟨rfl, z, rfl, rfl⟩ := b x H2 hy
    exact ⟨Gr.refl _ _, R, .int z⟩
  · have : l.length = i := Option.some.inj e
    exact hst i H' (by omega)
theorem rngL_get {lo : Int} {n i : Nat} {v : MV} (e : (rngL lo n)[i]? = some v) : i < n ∧ v = .int (lo + (i : Int)) := by
  unfold rngL at e
  rw [List.getElem?_map] at e
  cases e1 : (List.range n)[i]? with
  | none => rw [e1] at e; cases e
  | some j =>
    obtain ⟨hi, ej⟩ := List.getElem?_eq_some_iff.mp e1
    rw [e1] at e
    rw [List.getElem_range] at ej
    subst ej
    exact ⟨by simpa using hi, (Option.some.inj e).symm⟩
theorem rngC_get {lo c : Int} {n i : Nat} {v : MV} (e : (rngC lo c n)[i]? = some v) : i < n ∧ v = .int (lo + (i : Int) * c) := by
  unfold rngC at e
  rw [List.getElem?_map] at e
  cases e1 : (List.range n)[i]? with
  | none => rw [e1] at e; cases e
  | some j =>
    obtain ⟨hi, ej⟩ := List.getElem?_eq_some_iff.mp e1
    rw [e1] at e
    rw [List.getElem_range] at ej
    subst ej
    exact ⟨by simpa using hi, (Option.some.inj e).symm⟩
theorem rngL_len (lo : Int) (n : Nat) : (rngL lo n).length = n := by unfold rngL; simp
theorem rngC_len (lo c : Int) (n : Nat) : (rngC lo c n).length = n := by unfold rngC; simp
theorem RI.range (lo : Int) (n : Nat) : RI K μ H (.one (.vals (rngL lo n)) n) (Itr lo n) := RI.ints n (fun i v H' e => by
    obtain ⟨hi, rfl⟩ := rngL_get e
    refine ⟨hi, fun x H2 hy => ?_⟩
    obtain ⟨rfl, rfl⟩ := hy
    exact ⟨rfl, _, rfl, rfl⟩) fun i H' h => by rw [rngL_len] at h; exact h
theorem RI.rangeC (lo c : Int) (n : Nat) : RI K μ H (.one (.vals (rngC lo c n)) n) (Itc lo c n) := RI.ints n (fun i v H' e => by
    obtain ⟨hi, rfl⟩ := rngC_get e
    refine ⟨hi, fun x H2 hy => ?_⟩
    obtain ⟨rfl, rfl⟩ := hy
    exact ⟨rfl, _, rfl, rfl⟩) fun i H' h => by rw [rngC_len] at h; exact h
theorem RI.rangeR (lo : Int) (n : Nat) : RI K μ H (.one (.vals (rngL lo n).reverse) n) (Itc (lo + (n : Int) - 1) (-1) n) := RI.ints n (fun i v H' e => by
    have hi : i < n := by
      have := (List.getElem?_eq_some_iff.mp e).1
      rw [List.length_reverse, rngL_len] at this
      exact this
    rw [List.getElem?_reverse (by rw [rngL_len]; exact hi), rngL_len] at e
    obtain ⟨_, rfl⟩ := rngL_get e
    refine ⟨hi, fun x H2 hy => ?_⟩
    obtain ⟨rfl, rfl⟩ := hy
    refine ⟨rfl, _, rfl, ?_⟩
    congr 1
    omega) fun i H' h => by rw [List.length_reverse, rngL_len] at h; exact h
/-- a new pair that a walk hands out -/
theorem pair_new {T : Addr} {x y : V} {u v : MV} (R : RH K μ H h) (hT : H T = none) (rx : RM K μ H u x) (ry : RM K μ H v y) : Gr μ μ H (upd H T (.tup [x, y])) ∧ RH K μ (upd H T (.tup [x, y])) h ∧ RM K μ (upd H T (.tup [x, y])) (.tup [u, v]) (.ref T) :=
  ⟨Gr.new0 hT, R.new0 hT, .tup upd_same (.cons (rx.gr (Gr.new0 hT)) (.cons (ry.gr (Gr.new0 hT)) .nil))⟩
theorem RI.enum {s : Src} {k : Nat} {a : Addr} (r : RS K (SqL K) μ H s a) : RI K μ H (.enum s k) (Ite K a) := by
  intro μ' H' h' g R i
  refine ⟨fun v e => ?_, fun e => ?_⟩
  · obtain ⟨xs, e1, e2⟩ := Option.bind_eq_some_iff.mp (show (s.get h').bind (fun xs => (xs[i]?).map fun x => MV.tup [.int i, x]) = some v from e)
    obtain ⟨vs, hs, rr⟩ := r μ' H' h' g R xs e1
    obtain ⟨u, eu, rfl⟩ := Option.map_eq_some_iff.mp e2
    obtain ⟨x, ex, rx⟩ := rr.get eu
    refine ⟨⟨vs, x, hs, ex⟩, fun y H2 hy => ?_⟩
    obtain ⟨T, z, rfl, hT, rfl, hz⟩ := hy
    have := hz vs hs
    rw [ex] at this
    cases this
    exact pair_new R hT (.int _) rx
  · have e : (s.get h').map List.length = some i := e
    cases e1 : s.get h' with
    | none => rw [e1] at e; cases e
    | some xs =>
      rw [e1] at e
      obtain ⟨vs, hs, rr⟩ := r μ' H' h' g R xs e1
      have : xs.length = i := Option.some.inj e
      exact ⟨vs, hs, by rw [← rr.length]; omega⟩
theorem RI.zip {s t : Src} {k : Nat} {a b : Addr} (r : RS K (SqL K) μ H s a) (r2 : RS K (SqL K) μ H t b) : RI K μ H (.zip s t k) (Itz K a b) := by
  intro μ' H' h' g R i
  refine ⟨fun v e => ?_, fun e => ?_⟩
  · simp only [itemI] at e
    split at e
    case h_2 => cases e
    rename_i xs ys e1 e2
    split at e
    case h_2 => cases e
    rename_i x y ex ey
    cases e
    obtain ⟨vs, hs, rr⟩ := r μ' H' h' g R xs e1
    obtain ⟨ws, hs2, rr2⟩ := r2 μ' H' h' g R ys e2
    obtain ⟨p, ep, rp⟩ := rr.get ex
    obtain ⟨q, eq, rq⟩ := rr2.get ey
    refine ⟨⟨vs, ws, p, q, hs, hs2, ep, eq⟩, fun z H2 hy => ?_⟩
    obtain ⟨T, p', q', rfl, hT, rfl, hp, hq⟩ := hy
    have h1 := hp vs hs
    have h2 := hq ws hs2
    rw [ep] at h1
    rw [eq] at h2
    cases h1; cases h2
    exact pair_new R hT rp rq
  · simp only [lenI] at e
    split at e
    case h_2 => cases e
    rename_i xs ys e1 e2
    obtain ⟨vs, hs, rr⟩ := r μ' H' h' g R xs e1
    obtain ⟨ws, hs2, rr2⟩ := r2 μ' H' h' g R ys e2
    have : min xs.length ys.length = i := Option.some.inj e
    refine ⟨vs, ws, hs, hs2, ?_⟩
    rw [← rr.length, ← rr2.length]
    omega
theorem RI.revL {s : Src} {k : Nat} {a : Addr} (r : RS K (SqL K) μ H s a) : RI K μ H (.rev s k) (Itv K a k) := by
  intro μ' H' h' g R i
  refine ⟨fun v e => ?_, fun e => ?_⟩
  · simp only [itemI] at e
    split at e
    case h_2 => cases e
    rename_i xs e1
    split at e
    case isFalse => cases e
    rename_i hk
    obtain ⟨vs, hs, rr⟩ := r μ' H' h' g R xs e1
    obtain ⟨x, ex, rx⟩ := rr.get e
    by_cases hi : i < k
    · refine ⟨⟨hi, vs, x, hs, ex⟩, fun y H2 hy => ?_⟩
      obtain ⟨rfl, hy⟩ := hy
      have := hy vs hs
      rw [ex] at this
      cases this
      exact ⟨Gr.refl _ _, R, rx⟩
    · exact absurd hk.2 hi
  · simp only [lenI] at e
    split at e
    case h_2 => cases e
    split at e
    case isFalse => cases e
    show k ≤ i
    have : k = i := Option.some.inj e
    omega
end
end MP
/-! MP11: the induction over expressions. -/
namespace MP
open PySem PySem.Spec PyProof.Rows L2
section
variable {L : Lk} {C : Ora}
abbrev PP (X : Cx) (e : Expr) (C : Ora) (m : E) : Prop := PE X e (tE X.K C m) ∧ PT X e (tT X.K C m)
theorem noF {P : Prop} {b : Bool} (h : b = true) (e : b = false) : P := by rw [e] at h; cases h
/-- a list of arguments, from the expressions -/
theorem sArgs {X : Cx} {sc : Scope} {k : Nat} (hE : ∀ (m : E), sizeOf m < k → ∀ (e : Expr), chkE L sc m e = true → PP X e C m) : ∀ (es : Es) (l : List Expr), sizeOf es < k → chkEs L sc es l = true → PA X l (tEs X.K C es)
  | .nil, [], _, _ => wkA pa_nil fun σ H Q ⟨μ, h, ρ, R, r, p⟩ => by
      unfold evEs at p
      exact p.ret R .nil
  | .cons e es, x :: l, hk, hc => by
      unfold chkEs at hc
      obtain ⟨h1, h2⟩ := ba hc
      rw [Es.cons.sizeOf_spec] at hk
      refine wkA (pa_cons (hE e (by omega) x h1).1 (sArgs hE es l (by omega) h2) (star_ok h1 l X.env)) fun σ H Q ⟨μ, h, ρ, R, r, p⟩ => ?_
      unfold evEs at p
      refine ⟨μ, h, ρ, R, r, Pst.seq p (Gr.refl _ _) fun x H1 μ1 h1 u g1 R1 r1 p1 => ?_⟩
      refine ⟨μ1, h1, ρ, R1, r.gr g1, Pst.seq p1 g1 fun xs H2 μ2 h2 us g2 R2 r2 p2 => ?_⟩
      exact p2 μ2 H2 (x :: xs) (g1.trans g2) R2 (.cons (r1.gr g2) r2)
  | .nil, _ :: _, _, h => by unfold chkEs at h; cases h
  | .cons _ _, [], _, h => by unfold chkEs at h; cases h
/-- and, or over a list -/
theorem sAnd {X : Cx} {sc : Scope} {k : Nat} (hE : ∀ (m : E), sizeOf m < k → ∀ (e : Expr), chkE L sc m e = true → PP X e C m) {pos : Pos} : ∀ (es : Es) (l : List Expr), sizeOf es < k → l ≠ [] → chkEs L sc es l = true →
    PE X (.BoolOp .And l pos) (fun σ H Q => ∃ μ h ρ, RH X.K μ H h ∧ RE X.K μ H ρ σ ∧ Pst X.K μ H NoX (RM X.K) (evAnd C ρ es h) Q) ∧
      PW X (.BoolOp .And l pos) (fun σ H Q => ∃ μ h ρ, RH X.K μ H h ∧ RE X.K μ H ρ σ ∧ Pst X.K μ H NoX RB (bnd (evAnd C ρ es h) asB) Q)
  | .nil, [], _, h, _ => absurd rfl h
  | .cons e .nil, [x], hk, _, hc => by
      rw [Es.cons.sizeOf_spec] at hk
      unfold chkEs at hc
      obtain ⟨h1, _⟩ := ba hc
      obtain ⟨a1, a2⟩ := hE e (by omega) x h1
      refine ⟨wkE (pe_one a1) fun σ H Q ⟨μ, h, ρ, R, r, p⟩ => ?_, wkW (pw_and1 a2) fun σ H Q ⟨μ, h, ρ, R, r, p⟩ => ?_⟩
      · unfold evAnd at p; exact ⟨μ, h, ρ, R, r, p⟩
      · unfold evAnd at p; exact ⟨μ, h, ρ, R, r, p⟩
  | .cons e (.cons e2 es), x :: y :: l, hk, _, hc => by
      rw [Es.cons.sizeOf_spec] at hk
      unfold chkEs at hc
      obtain ⟨h1, h2⟩ := ba hc
      obtain ⟨a1, a2⟩ := hE e (by omega) x h1
      obtain ⟨b1, b2⟩ := sAnd hE (pos := pos) (.cons e2 es) (y :: l) (by omega) (by simp) h2
      refine ⟨wkE (pe_and a1 b1) fun σ H Q ⟨μ, h, ρ, R, r, p⟩ => ?_, wkW (pw_and a2 b2) fun σ H Q ⟨μ, h, ρ, R, r, p⟩ => ?_⟩
      · unfold evAnd at p
        refine ⟨μ, h, ρ, R, r, Pst.seq p (Gr.refl _ _) fun x H1 μ1 h1 u g1 R1 r1 p1 => ?_⟩
        obtain ⟨c, rfl, p1⟩ := asB_bl' p1
        cases r1
        refine ⟨c, rfl, ?_⟩
        cases c with
        | true => exact ⟨μ1, h1, ρ, R1, r.gr g1, p1.gr g1⟩
        | false => exact p1 μ1 H1 _ g1 R1 (.bl false)
      · unfold evAnd at p
        have p' : Pst X.K μ H NoX RB (bnd (bnd (evE C ρ e h) asB) fun b h2 => if b = true then bnd (evAnd C ρ (.cons e2 es) h2) asB else MP.ret false h2) Q := by
          have e3 : (bnd (bnd (evE C ρ e h) fun x h1 => bnd (asB x h1) fun b h2 => if b = true then evAnd C ρ (.cons e2 es) h2 else MP.ret (.bl false) h2) asB) = (bnd (bnd (evE C ρ e h) asB) fun b h2 => if b = true then bnd (evAnd C ρ (.cons e2 es) h2) asB else MP.ret false h2) := by
            cases evE C ρ e h with
            | none => rfl
            | some o => cases o with
              | ex c h => rfl
              | ok v h =>
                simp only [bnd_ok]
                cases v with
                | bl b => cases b <;> rfl
                | _ => rfl
          rw [← e3]; exact p
        refine ⟨μ, h, ρ, R, r, Pst.seq p' (Gr.refl _ _) fun c H1 μ1 h1 u g1 R1 r1 p1 => ?_⟩
        cases r1
        cases c with
        | true => exact ⟨μ1, h1, ρ, R1, r.gr g1, p1.gr g1⟩
        | false => exact p1 μ1 H1 _ g1 R1 rfl
  | .nil, _ :: _, _, _, h => by unfold chkEs at h; cases h
  | .cons _ _, [], _, h, _ => absurd rfl h
  | .cons _ .nil, _ :: _ :: _, _, _, h => by unfold chkEs at h; obtain ⟨_, h⟩ := ba h; unfold chkEs at h; cases h
  | .cons _ (.cons _ _), [_], _, _, h => by unfold chkEs at h; obtain ⟨_, h⟩ := ba h; unfold chkEs at h; cases h
theorem sOr {X : Cx} {sc : Scope} {k : Nat} (hE : ∀ (m : E), sizeOf m < k → ∀ (e : Expr), chkE L sc m e = true → PP X e C m) {pos : Pos} : ∀ (es : Es) (l : List Expr), sizeOf es < k → l ≠ [] → chkEs L sc es l = true →
    PE X (.BoolOp .Or l pos) (fun σ H Q => ∃ μ h ρ, RH X.K μ H h ∧ RE X.K μ H ρ σ ∧ Pst X.K μ H NoX (RM X.K) (evOr C ρ es h) Q) ∧
      PW X (.BoolOp .Or l pos) (fun σ H Q => ∃ μ h ρ, RH X.K μ H h ∧ RE X.K μ H ρ σ ∧ Pst X.K μ H NoX RB (bnd (evOr C ρ es h) asB) Q)
  | .nil, [], _, h, _ => absurd rfl h
  | .cons e .nil, [x], hk, _, hc => by
      rw [Es.cons.sizeOf_spec] at hk
      unfold chkEs at hc
      obtain ⟨h1, _⟩ := ba hc
      obtain ⟨a1, a2⟩ := hE e (by omega) x h1
      refine ⟨wkE (pe_one a1) fun σ H Q ⟨μ, h, ρ, R, r, p⟩ => ?_, wkW (pw_or1 a2) fun σ H Q ⟨μ, h, ρ, R, r, p⟩ => ?_⟩
      · unfold evOr at p; exact ⟨μ, h, ρ, R, r, p⟩
      · unfold evOr at p; exact ⟨μ, h, ρ, R, r, p⟩
  | .cons e (.cons e2 es), x :: y :: l, hk, _, hc => by
      rw [Es.cons.sizeOf_spec] at hk
      unfold chkEs at hc
      obtain ⟨h1, h2⟩ := ba hc
      obtain ⟨a1, a2⟩ := hE e (by omega) x h1
      obtain ⟨b1, b2⟩ := sOr hE (pos := pos) (.cons e2 es) (y :: l) (by omega) (by simp) h2
      refine ⟨wkE (pe_or a1 b1) fun σ H Q ⟨μ, h, ρ, R, r, p⟩ => ?_, wkW (pw_or a2 b2) fun σ H Q ⟨μ, h, ρ, R, r, p⟩ => ?_⟩
      · unfold evOr at p
        refine ⟨μ, h, ρ, R, r, Pst.seq p (Gr.refl _ _) fun x H1 μ1 h1 u g1 R1 r1 p1 => ?_⟩
        obtain ⟨c, rfl, p1⟩ := asB_bl' p1
        cases r1
        refine ⟨c, rfl, ?_⟩
        cases c with
        | false => exact ⟨μ1, h1, ρ, R1, r.gr g1, p1.gr g1⟩
        | true => exact p1 μ1 H1 _ g1 R1 (.bl true)
      · unfold evOr at p
        have p' : Pst X.K μ H NoX RB (bnd (bnd (evE C ρ e h) asB) fun b h2 => if b = true then MP.ret true h2 else bnd (evOr C ρ (.cons e2 es) h2) asB) Q := by
          have e3 : (bnd (bnd (evE C ρ e h) fun x h1 => bnd (asB x h1) fun b h2 => if b = true then MP.ret (.bl true) h2 else evOr C ρ (.cons e2 es) h2) asB) = (bnd (bnd (evE C ρ e h) asB) fun b h2 => if b = true then MP.ret true h2 else bnd (evOr C ρ (.cons e2 es) h2) asB) := by
            cases evE C ρ e h with
            | none => rfl
            | some o => cases o with
              | ex c h => rfl
              | ok v h =>
                simp only [bnd_ok]
                cases v with
                | bl b => cases b <;> rfl
                | _ => rfl
          rw [← e3]; exact p
        refine ⟨μ, h, ρ, R, r, Pst.seq p' (Gr.refl _ _) fun c H1 μ1 h1 u g1 R1 r1 p1 => ?_⟩
        cases r1
        cases c with
        | false => exact ⟨μ1, h1, ρ, R1, r.gr g1, p1.gr g1⟩
        | true => exact p1 μ1 H1 _ g1 R1 rfl
  | .nil, _ :: _, _, _, h => by unfold chkEs at h; cases h
  | .cons _ _, [], _, h, _ => absurd rfl h
  | .cons _ .nil, _ :: _ :: _, _, _, h => by unfold chkEs at h; obtain ⟨_, h⟩ := ba h; unfold chkEs at h; cases h
  | .cons _ (.cons _ _), [_], _, _, h => by unfold chkEs at h; obtain ⟨_, h⟩ := ba h; unfold chkEs at h; cases h
/-- a chain of comparisons -/
theorem last_ok {sc : Scope} : ∀ (c : Ch) (os : List CmpOp) (rs : List Expr), chkCh L sc c os rs = true → lastMarks os rs = false
  | .one op b, [o], [r], h => by
      unfold chkCh at h
      obtain ⟨_, h2⟩ := ba h
      show behindInMarks o r = false
      cases r <;> first | rfl | (exfalso; cases b <;> (unfold chkE at h2; cases h2))
  | .more op b c, o :: os, r :: rs, h => by
      unfold chkCh at h
      obtain ⟨_, h2⟩ := ba h
      obtain ⟨_, h3⟩ := ba h2
      have ih := last_ok c os rs h3
      cases os with
      | nil => cases c <;> (unfold chkCh at h3; cases h3)
      | cons o2 os => cases rs with
        | nil => cases c <;> cases os <;> (unfold chkCh at h3; cases h3)
        | cons r2 rs => exact ih
  | .one _ _, [], _, h => by unfold chkCh at h; cases h
  | .one _ _, _ :: _ :: _, _, h => by unfold chkCh at h; cases h
  | .one _ _, [_], [], h => by unfold chkCh at h; cases h
  | .one _ _, [_], _ :: _ :: _, h => by unfold chkCh at h; cases h
  | .more _ _ _, [], _, h => by unfold chkCh at h; cases h
  | .more _ _ _, _ :: _, [], h => by unfold chkCh at h; cases h
theorem sCh {X : Cx} {sc : Scope} {k : Nat} (hu : X.A.units + 65 < cLine) (hE : ∀ (m : E), sizeOf m < k → ∀ (e : Expr), chkE L sc m e = true → PP X e C m) {pos : Pos} : ∀ (c : Ch) (os : List CmpOp) (rs : List Expr), sizeOf c < k → chkCh L sc c os rs = true →
    ∀ (pins : List (Addr × Obj)) (s : Shared) (σ : L2.St) (H H0 : AH) (x : V) (v : Value) (u : MV) (μ μ0 : List Addr) (h : MHp) (ρ : En), Inv X pins σ H s → RelV x v → RH X.K μ H h → RE X.K μ H ρ σ → RM X.K μ H u x → Gr μ0 μ H0 H →
      (∀ Q : VK, Pst X.K μ0 H0 NoX (RM X.K) (evCh C ρ c u h) Q → wpAny (model X.prog X.w) X.A (compareChain pos v os (evalEach rs X.env)) (EP X pins σ Q) X.xe s) ∧
      (∀ Q : Bool → AH → Prop, Pst X.K μ0 H0 NoX RB (bnd (evCh C ρ c u h) asB) Q → wpAny (model X.prog X.w) X.A (testChain pos v os (evalEach rs X.env)) (TP X pins σ Q) X.xe s)
  | .one op b, [o], [r], hk, hc, pins, s, σ, H, H0, x, v, u, μ, μ0, h, ρ, I, rx, R, re, ru, g0 => by
      rw [Ch.one.sizeOf_spec] at hk
      unfold chkCh at hc
      obtain ⟨h1, h2⟩ := ba hc
      have eo := cmpB_ok h1
      subst eo
      have hb := (hE b (by omega) r h2).1
      refine ⟨fun Q p => chain_last ?_, fun Q p => test_last ?_⟩
      · unfold evCh at p
        refine thn (hb.run pins s σ H _ I ⟨μ, h, ρ, R, re, Pst.seq p g0 fun y H2 μ2 h2 w g2 R2 r2 p2 => (show rCmp X.K op x y H2 Q from ?_)⟩) fun w s1 ⟨y, H2, I2, ry, q⟩ => op_cmp hu op pins s1 σ H2 x y v w Q I2 rx ry q
        cases e : cmpV op u w h2 with
        | none => simp only [e] at p2; exact p2.elim
        | some c => simp only [e] at p2; exact ⟨μ2, h2, u, w, c, R2, ru.gr g2, r2, e, p2 μ2 H2 _ (g0.trans g2) R2 (.bl c)⟩
      · unfold evCh at p
        have e3 : (bnd (bnd (evE C ρ b h) fun y h1 => match cmpV op u y h1 with | some r => MP.ret (.bl r) h1 | none => none) asB) = bnd (evE C ρ b h) fun y h1 => match cmpV op u y h1 with | some r => MP.ret r h1 | none => none := by
          cases evE C ρ b h with
          | none => rfl
          | some o => cases o with
            | ex c h => rfl
            | ok v h => simp only [bnd_ok]; cases cmpV op u v h <;> rfl
        have p : Pst X.K μ0 H0 NoX RB (bnd (evE C ρ b h) fun y h1 => match cmpV op u y h1 with | some r => MP.ret r h1 | none => none) Q := by rw [← e3]; exact p
        refine thn (hb.run pins s σ H _ I ⟨μ, h, ρ, R, re, Pst.seq p g0 fun y H2 μ2 h2 w g2 R2 r2 p2 => (show rCmp X.K op x y H2 (fun z H3 => ∃ c, z = .bl c ∧ Q c H3) from ?_)⟩) fun w s1 ⟨y, H2, I2, ry, q⟩ => thn (op_cmp hu op pins s1 σ H2 x y v w _ I2 rx ry q) fun d s2 ⟨z, H3, I3, rz, c, ez, q3⟩ => ?_
        · cases e : cmpV op u w h2 with
          | none => simp only [e] at p2; exact p2.elim
          | some c => simp only [e] at p2; exact ⟨μ2, h2, u, w, c, R2, ru.gr g2, r2, e, c, rfl, p2 μ2 H2 _ (g0.trans g2) R2 rfl⟩
        · subst ez
          cases rz
          exact wpAny_truthy_bool ⟨H3, I3, q3⟩
  | .more op b c, o :: o2 :: os, r :: r2 :: rs, hk, hc, pins, s, σ, H, H0, x, v, u, μ, μ0, h, ρ, I, rx, R, re, ru, g0 => by
      rw [Ch.more.sizeOf_spec] at hk
      unfold chkCh at hc
      obtain ⟨h1, h2⟩ := ba hc
      obtain ⟨h2, h3⟩ := ba h2
      have eo := cmpB_ok h1
      subst eo
      have hb := (hE b (by omega) r h2).1
      refine ⟨fun Q p => chain_link ?_, fun Q p => test_link ?_⟩
      · unfold evCh at p
        refine thn (hb.run pins s σ H (fun y H2 => ∃ μ2 h2 w, Gr μ μ2 H H2 ∧ RH X.K μ2 H2 h2 ∧ RM X.K μ2 H2 w y ∧ Pst X.K μ0 H0 NoX (RM X.K) (match cmpV op u w h2 with | some true => evCh C ρ c w h2 | some false => MP.ret (.bl false) h2 | none => none) Q) I
          ⟨μ, h, ρ, R, re, Pst.seq p g0 fun y H2 μ2 h2 w g2 R2 r2 p2 => ⟨μ2, h2, w, g2, R2, r2, p2⟩⟩) fun w' s1 ⟨y, H2, I2, ry, μ2, h2, w, g2, R2, rw2, p2⟩ => ?_
        cases e : cmpV op u w h2 with
        | none => simp only [e] at p2; exact p2.elim
        | some c1 =>
          refine thn (op_cmp hu op pins s1 σ H2 x y v w' (fun z H3 => H3 = H2 ∧ z = .bl c1) I2 rx ry ⟨μ2, h2, u, w, c1, R2, ru.gr g2, rw2, e, rfl, rfl⟩) fun d s2 ⟨z, H3, I3, rz, eh, ez⟩ => ?_
          subst eh ez
          cases rz
          refine wpAny_truthy_bool ?_
          cases c1 with
          | true =>
            simp only [e] at p2
            exact (sCh hu hE c (o2 :: os) (r2 :: rs) (by omega) h3 pins s2 σ H3 H0 y w' w μ2 μ0 h2 ρ I3 ry R2 (re.gr g2) rw2 (g0.trans g2)).1 Q p2
          | false =>
            simp only [e] at p2
            exact ⟨.bl false, H3, I3, rfl, p2 μ2 H3 _ (g0.trans g2) R2 (.bl false)⟩
      · unfold evCh at p
        have e3 : (bnd (bnd (evE C ρ b h) fun y h1 => match cmpV op u y h1 with | some true => evCh C ρ c y h1 | some false => MP.ret (.bl false) h1 | none => none) asB) = bnd (evE C ρ b h) fun y h1 => match cmpV op u y h1 with | some true => bnd (evCh C ρ c y h1) asB | some false => MP.ret false h1 | none => none := by
          cases evE C ρ b h with
          | none => rfl
          | some o => cases o with
            | ex c h => rfl
            | ok v h =>
              simp only [bnd_ok]
              cases cmpV op u v h with
              | none => rfl
              | some d => cases d <;> rfl
        have p : Pst X.K μ0 H0 NoX RB (bnd (evE C ρ b h) fun y h1 => match cmpV op u y h1 with | some true => bnd (evCh C ρ c y h1) asB | some false => MP.ret false h1 | none => none) Q := by rw [← e3]; exact p
        refine thn (hb.run pins s σ H (fun y H2 => ∃ μ2 h2 w, Gr μ μ2 H H2 ∧ RH X.K μ2 H2 h2 ∧ RM X.K μ2 H2 w y ∧ Pst X.K μ0 H0 NoX RB (match cmpV op u w h2 with | some true => bnd (evCh C ρ c w h2) asB | some false => MP.ret false h2 | none => none) Q) I
          ⟨μ, h, ρ, R, re, Pst.seq p g0 fun y H2 μ2 h2 w g2 R2 r2 p2 => ⟨μ2, h2, w, g2, R2, r2, p2⟩⟩) fun w' s1 ⟨y, H2, I2, ry, μ2, h2, w, g2, R2, rw2, p2⟩ => ?_
        cases e : cmpV op u w h2 with
        | none => simp only [e] at p2; exact p2.elim
        | some c1 =>
          refine thn (op_cmp hu op pins s1 σ H2 x y v w' (fun z H3 => H3 = H2 ∧ z = .bl c1) I2 rx ry ⟨μ2, h2, u, w, c1, R2, ru.gr g2, rw2, e, rfl, rfl⟩) fun d s2 ⟨z, H3, I3, rz, eh, ez⟩ => ?_
          subst eh ez
          cases rz
          refine wpAny_truthy_bool ?_
          cases c1 with
          | true =>
            simp only [e] at p2
            exact (sCh hu hE c (o2 :: os) (r2 :: rs) (by omega) h3 pins s2 σ H3 H0 y w' w μ2 μ0 h2 ρ I3 ry R2 (re.gr g2) rw2 (g0.trans g2)).2 Q p2
          | false =>
            simp only [e] at p2
            exact ⟨H3, I3, p2 μ2 H3 _ (g0.trans g2) R2 rfl⟩
  | .one _ _, [], _, _, h, _, _, _, _, _, _, _, _, _, _, _, _, _, _, _, _, _, _ => by unfold chkCh at h; cases h
  | .one _ _, _ :: _ :: _, _, _, h, _, _, _, _, _, _, _, _, _, _, _, _, _, _, _, _, _, _ => by unfold chkCh at h; cases h
  | .one _ _, [_], [], _, h, _, _, _, _, _, _, _, _, _, _, _, _, _, _, _, _, _, _ => by unfold chkCh at h; cases h
  | .one _ _, [_], _ :: _ :: _, _, h, _, _, _, _, _, _, _, _, _, _, _, _, _, _, _, _, _, _ => by unfold chkCh at h; cases h
  | .more _ _ _, [], _, _, h, _, _, _, _, _, _, _, _, _, _, _, _, _, _, _, _, _, _ => by unfold chkCh at h; cases h
  | .more _ _ _, _ :: _, [], _, h, _, _, _, _, _, _, _, _, _, _, _, _, _, _, _, _, _, _ => by unfold chkCh at h; cases h
  | .more _ _ c, [_], _ :: rs, _, h, _, _, _, _, _, _, _, _, _, _, _, _, _, _, _, _, _, _ => by unfold chkCh at h; obtain ⟨_, h⟩ := ba h; obtain ⟨_, h⟩ := ba h; cases c <;> cases ‹List Expr› <;> (unfold chkCh at h; cases h)
  | .more _ _ c, _ :: _ :: _, [_], _, h, _, _, _, _, _, _, _, _, _, _, _, _, _, _, _, _, _, _ => by unfold chkCh at h; obtain ⟨_, h⟩ := ba h; obtain ⟨_, h⟩ := ba h; cases c <;> cases ‹List CmpOp› <;> (unfold chkCh at h; cases h)
end
end MP
/-! MP12: targets, walks, comprehensions. -/
namespace MP
open PySem PySem.Spec PyProof.Rows L2
/-! ### targets -/
def slotsT : MP.T → List Nat | .name i => [i] | .tup is => is
/-- related but for some slots -/
structure REx (K : PySem.W.Frag) (μ : List Addr) (H : AH) (no : List Nat) (ρ : En) (σ : L2.St) : Prop where
  len : ρ.length = σ.length
  at_ : ∀ (i : Nat) (v : MV), i ∉ no → ρ[i]? = some (some v) → ∃ x, σ[i]? = some (some x) ∧ RM K μ H v x
theorem REx.of {K : PySem.W.Frag} {μ : List Addr} {H : AH} {no : List Nat} {ρ : En} {σ : L2.St} (r : RE K μ H ρ σ) : REx K μ H no ρ σ := ⟨r.len, fun i v _ e => r.at_ i v e⟩
theorem REx.all {K : PySem.W.Frag} {μ : List Addr} {H : AH} {ρ : En} {σ : L2.St} (r : REx K μ H [] ρ σ) : RE K μ H ρ σ := ⟨r.len, fun i v e => r.at_ i v (by simp) e⟩
theorem REx.set {K : PySem.W.Frag} {μ : List Addr} {H : AH} {no : List Nat} {ρ : En} {σ : L2.St} {i : Nat} (r : REx K μ H (i :: no) ρ σ) {v : MV} {x : V} (rv : RM K μ H v x) : REx K μ H no (ρ.set i (some v)) (σ.set i (some x)) := by
  refine ⟨by rw [List.length_set, List.length_set]; exact r.len, fun j u hj e => ?_⟩
  by_cases hij : i = j
  · subst hij
    have hl : i < ρ.length := by
      obtain ⟨l, _⟩ := List.getElem?_eq_some_iff.mp e
      simpa using l
    rw [List.getElem?_set_self hl] at e
    cases e
    exact ⟨x, List.getElem?_set_self (by rw [← r.len]; exact hl), rv⟩
  · rw [List.getElem?_set_ne hij] at e
    rw [List.getElem?_set_ne hij]
    exact r.at_ j u (fun z => (List.mem_cons.mp z).elim (fun w => hij w.symm) hj) e
def tG (K : PySem.W.Frag) (t : MP.T) : TG := fun v σ H Q => ∃ μ h ρ u ρ', RH K μ H h ∧ REx K μ H (slotsT t) ρ σ ∧ RM K μ H u v ∧ bindT t u ρ = some ρ' ∧ ∀ σ', RE K μ H ρ' σ' → wipe σ' (slotsT t) = wipe σ (slotsT t) → Q σ' H
theorem wipe_get (σ : L2.St) : ∀ (vs : List Nat) (j : Nat), (wipe σ vs)[j]? = if j ∈ vs ∧ j < σ.length then some none else σ[j]?
  | [], j => by simp [wipe]
  | v :: vs, j => by
    have ih := wipe_get σ vs
    unfold wipe
    have hl := wipe_length σ vs
    by_cases hj : v = j
    · subst hj
      by_cases hv : v < σ.length
      · rw [List.getElem?_set_self (by rw [hl]; exact hv), if_pos ⟨List.mem_cons_self, hv⟩]
      · rw [List.getElem?_eq_none (by rw [List.length_set, hl]; omega), if_neg (fun z => hv z.2), List.getElem?_eq_none (by omega)]
    · rw [List.getElem?_set_ne hj, ih j]
      by_cases hm : j ∈ vs ∧ j < σ.length
      · rw [if_pos hm, if_pos ⟨List.mem_cons_of_mem _ hm.1, hm.2⟩]
      · rw [if_neg hm, if_neg]
        rintro ⟨h1, h2⟩
        rcases List.mem_cons.mp h1 with z | z
        · exact hj z.symm
        · exact hm ⟨z, h2⟩
theorem wipe_set (σ : L2.St) (vs : List Nat) (i : Nat) (x : Option V) (h : i ∈ vs) : wipe (σ.set i x) vs = wipe σ vs := by
  apply List.ext_getElem?
  intro j
  rw [wipe_get, wipe_get, List.length_set]
  by_cases hj : i = j
  · subst hj
    by_cases hl : i < σ.length
    · rw [if_pos ⟨h, hl⟩, if_pos ⟨h, hl⟩]
    · rw [if_neg (fun z => hl z.2), if_neg (fun z => hl z.2), List.getElem?_eq_none (by rw [List.length_set]; omega), List.getElem?_eq_none (by omega)]
  · rw [List.getElem?_set_ne hj]
def LocOk (X : Cx) (sc : Scope) : Prop := ∀ x, locB sc x = true → Loc X.env.scope x ∧ (X.fn x = true ∨ X.env.scope.names.lookup x = some .local)
section
variable {X : Cx} {N : List Str} {sc : Scope}
theorem RE.unp {K : PySem.W.Frag} {μ : List Addr} {H : AH} (slots : List Nat) : ∀ (is : List Nat) (us : List MV) (vs : List V) (ρ : En) (σ : L2.St) (Q : L2.St → AH → Prop) (es : List Expr), is.length = us.length → RMs K μ H us vs → REx K μ H is ρ σ → (∀ i ∈ is, i ∈ slots) →
    (∀ σ', RE K μ H ((is.zip us).foldl (fun ρ p => ρ.set p.1 (some p.2)) ρ) σ' → wipe σ' slots = wipe σ slots → Q σ' H) →
    (is.foldr (fun i t => gCons (gName i) t) gNil) vs σ H Q
  | [], [], _, ρ, σ, Q, es, _, .nil, r, _, q => ⟨rfl, q σ r.all rfl⟩
  | i :: is, u :: us, _, ρ, σ, Q, es, hl, .cons ru rs, r, hs, q => by
    refine ⟨_, _, rfl, ?_⟩
    refine RE.unp slots is us _ (ρ.set i (some u)) (σ.set i (some _)) Q es (by simpa using hl) rs (r.set ru) (fun j hj => hs j (List.mem_cons_of_mem _ hj)) fun σ' r' hw => ?_
    exact q σ' r' (by rw [hw, wipe_set _ _ _ _ (hs i List.mem_cons_self)])
  | [], _ :: _, _, _, _, _, _, hl, _, _, _, _ => by simp at hl
  | _ :: _, [], _, _, _, _, _, hl, _, _, _, _ => by simp at hl
theorem targ_go (hN : X.N = N) (nd : N.Nodup) (lo : LocOk X sc) : ∀ (is : List Nat) (es : List Expr), targ.go N sc is es = true → PGs X es (is.foldr (fun i t => gCons (gName i) t) gNil) ∧ (assignEach es X.env).length = is.length ∧ (assignEach es X.env).findIdx? (·.1) = none
  | [], [], _ => ⟨pgs_nil, rfl, rfl⟩
  | i :: is, .Name x p :: es, h => by
    unfold targ.go at h
    obtain ⟨h1, h3⟩ := ba h
    obtain ⟨h1, h2⟩ := ba h1
    obtain ⟨a1, a2, a3⟩ := targ_go hN nd lo is es h3
    obtain ⟨l1, l2⟩ := lo x h2
    refine ⟨pgs_cons (pg_name (by rw [hN]; exact nd) (by rw [hN]; exact of_decide_eq_true h1) l1 l2) a1, ?_, ?_⟩
    · show ((false, assign (.Name x p) X.env) :: assignEach es X.env).length = _
      rw [List.length_cons, a2]; rfl
    · show ((false, assign (.Name x p) X.env) :: assignEach es X.env).findIdx? (·.1) = none
      rw [List.findIdx?_cons, a3]; rfl
  | [], _ :: _, h => by unfold targ.go at h; cases h
  | _ :: _, [], h => by unfold targ.go at h; cases h
  | i :: is, e :: es, h => by
    cases e <;> first | (unfold targ.go at h; cases h; done) | skip
    rename_i x p
    unfold targ.go at h
    obtain ⟨h1, h3⟩ := ba h
    obtain ⟨h1, h2⟩ := ba h1
    obtain ⟨a1, a2, a3⟩ := targ_go hN nd lo is es h3
    obtain ⟨l1, l2⟩ := lo x h2
    refine ⟨pgs_cons (pg_name (by rw [hN]; exact nd) (by rw [hN]; exact of_decide_eq_true h1) l1 l2) a1, ?_, ?_⟩
    · show ((false, assign (.Name x p) X.env) :: assignEach es X.env).length = _
      rw [List.length_cons, a2]; rfl
    · show ((false, assign (.Name x p) X.env) :: assignEach es X.env).findIdx? (·.1) = none
      rw [List.findIdx?_cons, a3]; rfl
theorem targ_ok (hN : X.N = N) (nd : N.Nodup) (hc : X.calm = true) (lo : LocOk X sc) {t : MP.T} {tg : Expr} (h : targ N sc t tg = true) : PG X tg (tG X.K t) := by
  cases t with
  | name i =>
    cases tg <;> first | (unfold targ at h; cases h; done) | skip
    rename_i x p
    unfold targ at h
    obtain ⟨h1, h2⟩ := ba h
    obtain ⟨l1, l2⟩ := lo x h2
    refine ⟨fun pins s σ H v u Q I rv ⟨μ, hh, ρ, w, ρ', R, r, rw_, e, q⟩ => (pg_name (by rw [hN]; exact nd) (by rw [hN]; exact of_decide_eq_true h1) l1 l2).run pins s σ H v u Q I rv ?_⟩
    cases e
    exact q _ (REx.set (no := []) r rw_).all (wipe_set _ _ _ _ (by simp [slotsT]))
  | tup is =>
    cases tg <;> first | (unfold targ at h; cases h; done) | skip
    rename_i es k p
    unfold targ at h
    obtain ⟨a1, a2, a3⟩ := targ_go hN nd lo is es h
    refine ⟨fun pins s σ H v u Q I rv ⟨μ, hh, ρ, w, ρ', R, r, rw_, e, q⟩ => (pg_tup hc a1 a2 a3).run pins s σ H v u Q I rv ?_⟩
    unfold bindT at e
    split at e
    case h_1 => rename_i h9; cases h9
    case h_3 => cases e
    rename_i is' us h9 
    cases h9
    split at e
    case isFalse => cases e
    rename_i hl
    cases e
    cases rw_ with
    | tup sq rr =>
      exact ⟨_, _, rfl, SqT.of sq, by rw [← rr.length, hl], RE.unp is is us _ _ σ Q es hl rr r (fun i hi => hi) fun σ' r' hw => q σ' r' hw⟩
end
end MP
/-! MP13: walks and comprehensions in the text; the main induction. -/
namespace MP
open PySem PySem.Spec PyProof.Rows L2
section
variable {L : Lk} {C : Ora} {X : Cx} {sc : Scope} {k : Nat}
theorem iter_plain {m : E} {e : Expr} (h : chkE L sc m e = true) (env : Env) (x : Value) : foldedSetIterable e env x = pure x := by
  cases e <;> first | rfl | (exfalso; cases m <;> (unfold chkE at h; cases h))
theorem isTup_ok {e : Expr} (h : isTup e = true) : ∃ es k p, e = .Tuple es k p := by
  cases e <;> first | exact ⟨_, _, _, rfl⟩ | cases h
theorem rng_ty : bootBuiltins "range" = some (.type "range") := boot_range
theorem blt_in (G : Gd L sc C X) {x : Str} (h : x ∈ bltNames) : X.mg x = none := G.blt x h
theorem sI (G : Gd L sc C X) (hE : ∀ (m : E), sizeOf m < k → ∀ (e : Expr), chkE L sc m e = true → PP X e C m) : ∀ (it : Ik) (iter tg : Expr), sizeOf it < k → chkI L sc it iter tg = true → PI X tg iter (tI X.K C it) ∧ ∀ env x, foldedSetIterable iter env x = pure x
  | .val e, iter, tg, hk, hc => by
    rw [Ik.val.sizeOf_spec] at hk
    unfold chkI at hc
    have hP := (hE e (by omega) iter hc).1
    refine ⟨⟨fun pins s σ H R I ⟨μ, h, ρ, R0, r, p⟩ => ?_⟩, fun env x => iter_plain hc env x⟩
    unfold evI at p
    have pl : ∀ {v h1}, evE C ρ e h = some (.ok v h1) → Pst X.K μ H NoX (RI X.K) (bnd (srcOf h.length v h1) fun s h2 => MP.ret (.one s.1 s.2) h2) R := fun {v h1} ee => by rw [ee] at p; exact p
    cases ee : evE C ρ e h with
    | none => rw [ee] at p; exact p.elim
    | some o =>
      cases o with
      | ex c h1 =>
        refine (pi_list hP).run pins s σ H R I ⟨μ, h, ρ, R0, r, ?_⟩
        rw [ee]
        rw [ee] at p
        exact p
      | ok v h1 =>
        have q := pl ee
        have base : ∀ {Q : VK}, (∀ μ' H' z, Gr μ μ' H H' → RH X.K μ' H' h1 → RM X.K μ' H' v z → Q z H') → tE X.K C e σ H Q := fun {Q} f => ⟨μ, h, ρ, R0, r, by rw [ee]; exact f⟩
        have isl : (∃ n, v = .ref n ∨ ∃ xs, v = .rol xs) → wpAny (model X.prog X.w) X.A (eval iter X.env) (fun v s1 => wpAny (model X.prog X.w) X.A (pyIter v) (PIE X pins σ tg R) X.xe s1) X.xe s := fun hv => by
          refine (pi_list hP).run pins s σ H R I (base fun μ' H' z g R' r' => ?_)
          rcases src_ok R0 g R' r' q with ⟨a, sr, n, h2, μ2, rfl, g2, R2, ⟨vs, hs, _⟩, rs, _, q2, _⟩ | ⟨a, sr, n, h2, _, _, _, _, _, xs, ev⟩ | ⟨t, ev, _⟩
          · exact ⟨a, rfl, ⟨vs, hs⟩, q2 μ2 H' _ g2 R2 (RI.listOne rs)⟩
          · subst ev; obtain ⟨n, h | ⟨xs, h⟩⟩ := hv <;> cases h
          · subst ev; obtain ⟨n, h | ⟨xs, h⟩⟩ := hv <;> cases h
        cases v with
        | ref n => exact isl ⟨n, .inl rfl⟩
        | rol xs => exact isl ⟨0, .inr ⟨xs, rfl⟩⟩
        | tup xs =>
          refine (pi_tup hP).run pins s σ H R I (base fun μ' H' z g R' r' => ?_)
          rcases src_ok R0 g R' r' q with ⟨a, sr, n, h2, μ2, _, _, _, _, _, _, _, n', h | ⟨xs, h⟩⟩ | ⟨a, sr, n, h2, rfl, R2, ⟨vs, hs, _⟩, rs, q2, _⟩ | ⟨t, ev, _⟩
          · cases h
          · cases h
          · exact ⟨a, rfl, ⟨vs, hs⟩, q2 μ' H' _ g R2 (RI.tupOne rs)⟩
          · cases ev
        | str t =>
          refine (pi_str hP).run pins s σ H R I (base fun μ' H' z g R' r' => ?_)
          rcases src_ok R0 g R' r' q with ⟨a, sr, n, h2, μ2, _, _, _, _, _, _, _, n', h | ⟨xs, h⟩⟩ | ⟨a, sr, n, h2, _, _, _, _, _, xs, ev⟩ | ⟨t', ev, rfl, hz, q2⟩
          · cases h
          · cases h
          · cases ev
          · cases ev
            exact ⟨_, rfl, q2 μ' H' _ g R' RI.strOne⟩
        | non => exact q.elim
        | bl _ => exact q.elim
        | int _ => exact q.elim
  | .rng1 a, iter, tg, hk, hc => by
    rw [Ik.rng1.sizeOf_spec] at hk
    unfold chkI at hc
    split at hc <;> try (cases hc; done)
    all_goals try (rename_i h9; cases h9; done)
    rename_i a' x px e pos hm
    cases hm
    obtain ⟨h1, h2⟩ := ba hc
    obtain ⟨h1, h3⟩ := ba h1
    have ex := of_decide_eq_true h1
    subst ex
    have hP := (hE a (by omega) e h2).1
    refine ⟨⟨fun pins s σ H R I ⟨μ, h, ρ, R0, r, p⟩ => ?_⟩, fun env x => rfl⟩
    unfold evI at p
    refine (pi_range1 (G.gl h3).1 (G.blt _ (by decide +kernel)) (pa_cons hP pa_nil (star_ok h2 [] X.env)) (star_ok h2 [] X.env)).run pins s σ H R I ⟨μ, h, ρ, R0, r, Pst.seq p (Gr.refl _ _) fun z H1 μ1 h1 u g1 R1 r1 p1 => ?_⟩
    cases r1 with
    | int j =>
      simp only at p1
      split at p1
      case isFalse => exact p1.elim
      rename_i hs
      unfold smallI at hs
      obtain ⟨s1, s2⟩ := ba hs
      exact ⟨j, rfl, of_decide_eq_true s1, of_decide_eq_true s2, p1 μ1 H1 _ g1 R1 (RI.range 0 j.toNat)⟩
    | _ => exact p1.elim
  | .rng2 a b, iter, tg, hk, hc => by
    rw [Ik.rng2.sizeOf_spec] at hk
    unfold chkI at hc
    split at hc <;> try (cases hc; done)
    all_goals try (rename_i h9; cases h9; done)
    rename_i a' b' x px e e2 pos hm
    cases hm
    obtain ⟨h1, h2⟩ := ba hc
    obtain ⟨h1, h3⟩ := ba h1
    obtain ⟨h2, h4⟩ := ba h2
    have ex := of_decide_eq_true h1
    subst ex
    have hP := (hE a (by omega) e h2).1
    have hP2 := (hE b (by omega) e2 h4).1
    refine ⟨⟨fun pins s σ H R I ⟨μ, h, ρ, R0, r, p⟩ => ?_⟩, fun env x => rfl⟩
    unfold evI at p
    refine (pi_range2 (G.gl h3).1 (G.blt _ (by decide +kernel)) (pa_cons hP (pa_cons hP2 pa_nil (star_ok h4 [] X.env)) (star_ok h2 [e2] X.env)) ((star_ok h2 [e2] X.env).trans (by rw [star_ok h4 [] X.env]; rfl)) (star_ok h4 [] X.env)).run pins s σ H R I
      ⟨μ, h, ρ, R0, r, Pst.seq p (Gr.refl _ _) fun z H1 μ1 h1 u g1 R1 r1 p1 => ⟨μ1, h1, ρ, R1, r.gr g1, Pst.seq p1 g1 fun y H2 μ2 h2 w g2 R2 r2 p2 => ?_⟩⟩
    have r1 := r1.gr g2
    cases r1 with
    | int i =>
      cases r2 with
      | int j =>
        simp only at p2
        split at p2
        case isFalse => exact p2.elim
        rename_i hs
        obtain ⟨hs, ht⟩ := ba hs
        unfold smallI at hs ht
        obtain ⟨s1, s2⟩ := ba hs
        obtain ⟨t1, t2⟩ := ba ht
        exact ⟨i, j, rfl, ⟨of_decide_eq_true s1, of_decide_eq_true s2, of_decide_eq_true t1, of_decide_eq_true t2⟩, p2 μ2 H2 _ (g1.trans g2) R2 (RI.range i (j - i).toNat)⟩
      | _ => exact p2.elim
    | _ => exact p2.elim
  | .rng3 a b c, iter, tg, hk, hc => by
    rw [Ik.rng3.sizeOf_spec] at hk
    unfold chkI at hc
    split at hc <;> try (cases hc; done)
    all_goals try (rename_i h9; cases h9; done)
    rename_i a' b' c' x px e e2 e3 pos hm
    cases hm
    obtain ⟨h1, h2⟩ := ba hc
    obtain ⟨h1, h3⟩ := ba h1
    obtain ⟨h2, h4⟩ := ba h2
    obtain ⟨h4, h5⟩ := ba h4
    have ex := of_decide_eq_true h1
    subst ex
    have hP := (hE a (by omega) e h2).1
    have hP2 := (hE b (by omega) e2 h4).1
    have hP3 := (hE c (by omega) e3 h5).1
    refine ⟨⟨fun pins s σ H R I ⟨μ, h, ρ, R0, r, p⟩ => ?_⟩, fun env x => rfl⟩
    unfold evI at p
    refine (pi_range3 (G.gl h3).1 (G.blt _ (by decide +kernel)) (pa_cons hP (pa_cons hP2 (pa_cons hP3 pa_nil (star_ok h5 [] X.env)) (star_ok h4 [e3] X.env)) (star_ok h2 [e2, e3] X.env)) (star_ok h2 [e2, e3] X.env)
        (by rw [star_ok h4 [e3] X.env, star_ok h5 [] X.env]; rfl)).run pins s σ H R I
      ⟨μ, h, ρ, R0, r, Pst.seq p (Gr.refl _ _) fun z H1 μ1 h1 u g1 R1 r1 p1 => ⟨μ1, h1, ρ, R1, r.gr g1, Pst.seq p1 g1 fun y H2 μ2 h2 w g2 R2 r2 p2 => ⟨μ2, h2, ρ, R2, r.gr (g1.trans g2), Pst.seq p2 (g1.trans g2) fun t H3 μ3 h3 q g3 R3 r3 p3 => ?_⟩⟩⟩
    have r1 := r1.gr (g2.trans g3)
    have r2 := r2.gr g3
    cases r1 with
    | int i =>
      cases r2 with
      | int j =>
        cases r3 with
        | int c =>
          simp only at p3
          unfold rngN at p3
          split at p3
          case h_2 => exact p3.elim
          rename_i n hn
          split at hn
          case isFalse => cases hn
          rename_i hh
          cases hn
          refine ⟨i, j, c, _, rfl, ⟨hh.1, hh.2.1, hh.2.2.1, ?_⟩, p3 μ3 H3 _ ((g1.trans g2).trans g3) R3 (RI.rangeC i c _)⟩
          have := hh.2.2.2
          omega
        | _ => exact p3.elim
      | _ => exact p3.elim
    | _ => exact p3.elim
  | .enum e, iter, tg, hk, hc => by
    rw [Ik.enum.sizeOf_spec] at hk
    unfold chkI at hc
    split at hc <;> try (cases hc; done)
    all_goals try (rename_i h9; cases h9; done)
    rename_i a' x px e1 pos hm
    cases hm
    obtain ⟨h1, h2⟩ := ba hc
    obtain ⟨h1, h4⟩ := ba h1
    obtain ⟨h1, h3⟩ := ba h1
    have ex := of_decide_eq_true h1
    subst ex
    have hP := (hE e (by omega) e1 h2).1
    obtain ⟨tes, tkk, tpp, rfl⟩ := isTup_ok h4
    refine ⟨⟨fun pins s σ H R I ⟨μ, h, ρ, R0, r, p⟩ => ?_⟩, fun env x => rfl⟩
    unfold evI at p
    refine (pi_enum (G.gl h3).1 (G.blt _ (by decide +kernel)) (pa_cons hP pa_nil (star_ok h2 [] X.env)) (star_ok h2 [] X.env)).run pins s σ H R I ⟨μ, h, ρ, R0, r, Pst.seq p (Gr.refl _ _) fun z H1 μ1 h1 u g1 R1 r1 p1 => ?_⟩
    split at p1
    case isFalse => exact p1.elim
    rename_i hl
    rcases src_ok R0 g1 R1 r1 p1 with ⟨a, sr, n, h2, μ2, rfl, g2, R2, ⟨vs, hs, _⟩, rs, _, q2, _⟩ | ⟨a, sr, n, h2, _, _, _, _, _, xs, ev⟩ | ⟨t, ev, _⟩
    · exact ⟨a, vs, rfl, hs, q2 μ2 H1 _ g2 R2 (RI.enum rs)⟩
    · subst ev; cases hl
    · subst ev; cases hl
  | .rev e, iter, tg, hk, hc => by
    rw [Ik.rev.sizeOf_spec] at hk
    unfold chkI at hc
    split at hc <;> try (cases hc; done)
    all_goals try (rename_i h9; cases h9; done)
    rename_i a' x px e1 pos hm
    cases hm
    obtain ⟨h1, h2⟩ := ba hc
    obtain ⟨h1, h3⟩ := ba h1
    have ex := of_decide_eq_true h1
    subst ex
    have hP := (hE e (by omega) e1 h2).1
    refine ⟨⟨fun pins s σ H R I ⟨μ, h, ρ, R0, r, p⟩ => ?_⟩, fun env x => rfl⟩
    unfold evI at p
    refine (RT.pi_revA (G.gl h3).1 (G.blt _ (by decide +kernel)) hP (star_ok h2 [] X.env)).run pins s σ H R I ⟨μ, h, ρ, R0, r, Pst.seq p (Gr.refl _ _) fun z H1 μ1 h1 u g1 R1 r1 p1 => ?_⟩
    split at p1
    case isFalse => exact p1.elim
    rename_i hl
    rcases src_ok R0 g1 R1 r1 p1 with ⟨a, sr, n, h2, μ2, rfl, g2, R2, ⟨vs, hs, ek⟩, rs, _, q2, _⟩ | ⟨a, sr, n, h2, _, _, _, _, _, xs, ev⟩ | ⟨t, ev, _⟩
    · exact ⟨a, vs, rfl, .inl ⟨hs, by rw [ek]; exact q2 μ2 H1 _ g2 R2 (RI.revL rs)⟩⟩
    · subst ev; cases hl
    · subst ev; cases hl
  | .zip a b, iter, tg, hk, hc => by
    rw [Ik.zip.sizeOf_spec] at hk
    unfold chkI at hc
    split at hc <;> try (cases hc; done)
    all_goals try (rename_i h9; cases h9; done)
    rename_i a' b' x px e e2 pos hm
    cases hm
    obtain ⟨h1, h2⟩ := ba hc
    obtain ⟨h1, h5⟩ := ba h1
    obtain ⟨h1, h3⟩ := ba h1
    obtain ⟨h2, h4⟩ := ba h2
    have ex := of_decide_eq_true h1
    subst ex
    have hP := (hE a (by omega) e h2).1
    have hP2 := (hE b (by omega) e2 h4).1
    obtain ⟨tes, tkk, tpp, rfl⟩ := isTup_ok h5
    refine ⟨⟨fun pins s σ H R I ⟨μ, h, ρ, R0, r, p⟩ => ?_⟩, fun env x => rfl⟩
    unfold evI at p
    refine (pi_zip (G.gl h3).1 (G.blt _ (by decide +kernel)) (pa_cons hP (pa_cons hP2 pa_nil (star_ok h4 [] X.env)) (star_ok h2 [e2] X.env)) (star_ok h2 [e2] X.env) (by rw [star_ok h4 [] X.env]; rfl)).run pins s σ H R I
      ⟨μ, h, ρ, R0, r, Pst.seq p (Gr.refl _ _) fun z H1 μ1 h1 u g1 R1 r1 p1 => ⟨μ1, h1, ρ, R1, r.gr g1, Pst.seq p1 g1 fun y H2 μ2 h2 w g2 R2 r2 p2 => ?_⟩⟩
    split at p2
    case isFalse => exact p2.elim
    rename_i hl
    obtain ⟨l1, l2⟩ := ba hl
    split at p2
    case h_2 => exact p2.elim
    rename_i xs ys e1 e2
    have go : ∀ {v : MV} {z : V} {xs : List MV}, isL v = true → elems h2 v = some xs → RM X.K μ2 H2 v z → ∃ a vs, z = .ref a ∧ SqL X.K H2 a vs ∧ RS X.K (SqL X.K) μ2 H2 (srcL v) a := fun {v z xs} hv ev rv => by
      cases rv with
      | ref ea =>
        obtain ⟨vs, q, _⟩ := R2.elems ev ea
        refine ⟨_, vs, rfl, SqL.of q, fun μ' H' h' g' R' ys e => ?_⟩
        obtain ⟨ws, q', r'⟩ := R'.elems e (g'.at_ ea)
        exact ⟨ws, SqL.of q', r'⟩
      | rol s rr =>
        refine ⟨_, _, rfl, s.1, fun μ' H' h' g' R' ys e => ?_⟩
        cases (show some _ = some ys from e)
        exact ⟨_, s.2 _ g'.tp, rr.gr g'⟩
      | _ => cases hv
    obtain ⟨c, vs, rfl, hs, rs⟩ := go l1 e1 (r1.gr g2)
    obtain ⟨d, ws, rfl, hs2, rs2⟩ := go l2 e2 r2
    exact ⟨c, d, vs, ws, rfl, hs, hs2, p2 μ2 H2 _ (g1.trans g2) R2 (RI.zip rs rs2)⟩
  | .revr a b, iter, tg, hk, hc => by
    rw [Ik.revr.sizeOf_spec] at hk
    unfold chkI at hc
    split at hc <;> try (cases hc; done)
    all_goals try (rename_i h9; cases h9; done)
    rename_i a' b' x px y py l pos pos2 hm
    cases hm
    obtain ⟨h1, h2⟩ := ba hc
    obtain ⟨h1, h5⟩ := ba h1
    obtain ⟨h1, h4⟩ := ba h1
    obtain ⟨h1, h3⟩ := ba h1
    have ex := of_decide_eq_true h1
    have ey := of_decide_eq_true h4
    subst ex ey
    have fin : ∀ {i j : Int} {μ2 : List Addr} {μ : List Addr} {H2 H : AH} {h2 : MHp} {R : L2.It → AH → Prop}, smallI i && smallI j → Gr μ μ2 H H2 → RH X.K μ2 H2 h2 → Pst X.K μ H NoX (RI X.K) (MP.ret (.one (.vals (rngL i (j - i).toNat).reverse) (j - i).toNat) h2) R →
        -(2 ^ 62) ≤ i ∧ i < 2 ^ 62 ∧ -(2 ^ 62) ≤ j ∧ j < 2 ^ 62 ∧ R (Itc (i + (((j - i).toNat : Nat) : Int) - 1) (-1) (j - i).toNat) H2 := fun {i j μ2 μ H2 H h2 R} hs g R2 p => by
      obtain ⟨hs, ht⟩ := ba hs
      unfold smallI at hs ht
      obtain ⟨s1, s2⟩ := ba hs
      obtain ⟨t1, t2⟩ := ba ht
      exact ⟨of_decide_eq_true s1, of_decide_eq_true s2, of_decide_eq_true t1, of_decide_eq_true t2, p μ2 H2 _ g R2 (RI.rangeR i (j - i).toNat)⟩
    split at h2
    · rename_i q
      obtain ⟨h6, h7⟩ := ba h2
      split at h6
      case h_2 => cases h6
      rename_i i
      have ei := of_decide_eq_true h6
      subst ei
      have hP := (hE b (by omega) q h7).1
      refine ⟨⟨fun pins s σ H R I ⟨μ, h, ρ, R0, r, p⟩ => ?_⟩, fun env x => rfl⟩
      unfold evI at p
      rw [show evE C ρ (.int 0) h = MP.ret (.int 0) h by unfold evE; rfl] at p
      refine (pi_revR (G.gl h3).1 (G.blt _ (by decide +kernel)) (prg_1 (G.gl h5).1 (G.blt _ (by decide +kernel)) hP (star_ok h7 [] X.env)) rfl).run pins s σ H R I ⟨μ, h, ρ, R0, r, Pst.seq (show Pst X.K μ H NoX (RI X.K) (bnd (evE C ρ b h) _) R from p) (Gr.refl _ _) fun z H1 μ1 h1 u g1 R1 r1 p1 => ?_⟩
      cases r1 with
      | int j =>
        simp only at p1
        split at p1
        case isFalse => exact p1.elim
        rename_i hs
        exact ⟨j, rfl, fin hs g1 R1 p1⟩
      | _ => exact p1.elim
    · rename_i q q2
      obtain ⟨h6, h7⟩ := ba h2
      have hP := (hE a (by omega) q h6).1
      have hP2 := (hE b (by omega) q2 h7).1
      refine ⟨⟨fun pins s σ H R I ⟨μ, h, ρ, R0, r, p⟩ => ?_⟩, fun env x => rfl⟩
      unfold evI at p
      refine (pi_revR (G.gl h3).1 (G.blt _ (by decide +kernel)) (prg_2 (G.gl h5).1 (G.blt _ (by decide +kernel)) hP hP2 (star_ok h6 [q2] X.env) (star_ok h7 [] X.env) (by rw [star_ok h7 [] X.env]; rfl)) rfl).run pins s σ H R I
        ⟨μ, h, ρ, R0, r, Pst.seq p (Gr.refl _ _) fun z H1 μ1 h1 u g1 R1 r1 p1 => ⟨μ1, h1, ρ, R1, r.gr g1, Pst.seq p1 g1 fun y H2 μ2 h2 w g2 R2 r2 p2 => ?_⟩⟩
      have r1 := r1.gr g2
      cases r1 with
      | int i =>
        cases r2 with
        | int j =>
          simp only at p2
          split at p2
          case isFalse => exact p2.elim
          rename_i hs
          exact ⟨i, j, rfl, rfl, fin hs (g1.trans g2) R2 p2⟩
        | _ => exact p2.elim
      | _ => exact p2.elim
    · cases h2
end
end MP
/-! MP14: comprehensions; the main induction over expressions. -/
namespace MP
open PySem PySem.Spec PyProof.Rows L2
section
variable {L : Lk} {C : Ora} {X : Cx} {sc : Scope} {k : Nat}
theorem Gd.blk (G : Gd L sc C X) {scope : Scope} (hk : scope.kind = .function) (s : Shared) (H : AH) (D : Addr) (cl : List (Str × Addr)) (fp : List Addr) : Gd L (relS scope sc) C (X.blk s H scope (compEnvC scope cl D X.env) fp) where
  N_ := G.N_
  nd := G.nd
  sc_ := by rw [← G.sc_]; rfl
  kf := hk
  calm := G.calm
  hu := G.hu
  hp := PassesOwn.never
  blt := G.blt
  glb := G.glb
  fns := G.fns
theorem rel_keep {scope sc : Scope} {x : Str} {kd : NameKind} (hne : kd ≠ .free) : ∀ {names : List (Str × NameKind)}, names.lookup x = some kd → (names.map fun (n, k) => if (k == .free && sc.kind == .function && sc.names.lookup n == some .cell) then (n, .cell) else (n, k)).lookup x = some kd
  | [], h => by simp at h
  | (n, k0) :: r, h => by
    have ih := rel_keep (scope := scope) (sc := sc) (x := x) hne (names := r)
    rw [List.map_cons]
    cases hx : x == n with
    | true =>
      rw [List.lookup_cons, hx] at h
      cases (show some k0 = some kd from h)
      have : (kd == NameKind.free) = false := by cases kd <;> first | rfl | exact absurd rfl hne
      simp only [this, Bool.false_and]
      rw [show (if false = true then (n, NameKind.cell) else (n, kd)) = (n, kd) from rfl, List.lookup_cons, hx]
    | false =>
      rw [List.lookup_cons, hx] at h
      simp only
      split <;> (rw [List.lookup_cons, hx]; exact ih h)
theorem loc_blk (G : Gd L sc C X) {scope : Scope} (s : Shared) (H : AH) (D : Addr) (cl : List (Str × Addr)) (fp : List Addr) : LocOk (X.blk s H scope (compEnvC scope cl D X.env) fp) scope := by
  intro x hx
  have e : (X.blk s H scope (compEnvC scope cl D X.env) fp).env.scope = relS scope X.env.scope := rfl
  unfold locB at hx
  unfold L2.Loc
  rw [e]
  split at hx
  · rename_i h
    have h2 : (relS scope X.env.scope).names.lookup x = some .local := rel_keep (scope := scope) (by decide) h
    exact ⟨.inl h2, .inr h2⟩
  · rename_i h
    have h2 : (relS scope X.env.scope).names.lookup x = some .cell := rel_keep (scope := scope) (by decide) h
    refine ⟨.inr h2, .inl ?_⟩
    show (scope.names.lookup x == some .cell) = true
    rw [h]; rfl
  · cases hx
theorem own_slots {N : List Str} {scope : Scope} {t : MP.T} {tg : Expr} (h : targ N scope t tg = true) : (ownOf N t).map (·.2) = slotsT t := by
  cases t with
  | name i =>
    cases tg <;> first | (unfold targ at h; cases h; done) | skip
    unfold targ at h
    obtain ⟨h1, _⟩ := ba h
    have e := of_decide_eq_true h1
    simp only [ownOf, e, slotsT, List.map_cons, List.map_nil]
  | tup is =>
    cases tg <;> first | (unfold targ at h; cases h; done) | skip
    rename_i es _ _
    unfold targ at h
    simp only [ownOf, slotsT]
    induction is generalizing es with
    | nil => rfl
    | cons i is ih =>
      cases es with
      | nil => unfold targ.go at h; cases h
      | cons e es =>
        cases e <;> first | (unfold targ.go at h; cases h; done) | skip
        unfold targ.go at h
        obtain ⟨h1, h3⟩ := ba h
        obtain ⟨h1, _⟩ := ba h1
        have e := of_decide_eq_true h1
        rw [List.filterMap_cons]
        simp only [e, List.map_cons]
        rw [ih es h3]
def tCnd (K : PySem.W.Frag) (C : Ora) (c : Eo) : TT := fun σ H Q => ∃ μ h ρ, RH K μ H h ∧ RE K μ H ρ σ ∧ Pst K μ H NoX RB (evC C ρ c h) Q
theorem sCnd (hE : ∀ (m : E), sizeOf m < k → ∀ (e : Expr), chkE L sc m e = true → PP X e C m) : ∀ (c : Eo) (ifs : List Expr), sizeOf c < k → chkC L sc c ifs = true → PTs X ifs (tCnd X.K C c)
  | .none, [], _, _ => ⟨fun pins s σ H Q I ⟨μ, h, ρ, R, r, p⟩ => pts_nil.run pins s σ H Q I (by unfold evC at p; exact p.ret R rfl)⟩
  | .some e, [x], hk, hc => by
    rw [Eo.some.sizeOf_spec] at hk
    unfold chkC at hc
    refine ⟨fun pins s σ H Q I ⟨μ, h, ρ, R, r, p⟩ => (pts_one (hE e (by omega) x hc).2).run pins s σ H Q I ⟨μ, h, ρ, R, r, ?_⟩⟩
    unfold evC at p
    exact p
  | .none, _ :: _, _, h => by unfold chkC at h; cases h
  | .some _, [], _, h => by unfold chkC at h; cases h
  | .some _, _ :: _ :: _, _, h => by unfold chkC at h; cases h
theorem bnd_assoc {α β γ : Type} (o : O α) (f : α → MHp → O β) (g : β → MHp → O γ) : bnd (bnd o f) g = bnd o fun x h => bnd (f x h) g := by
  cases o with
  | none => rfl
  | some q => cases q <;> rfl
theorem Pst.noEx {K : PySem.W.Frag} {μ : List Addr} {H : AH} {α β γ : Type} {R2 : List Addr → AH → β → γ → Prop} {o : O α} {f : α → MHp → O β} {Q : γ → AH → Prop} (p : Pst K μ H NoX R2 (bnd (MP.noEx o) f) Q) : Pst K μ H NoX R2 (bnd o f) Q := by
  cases o with
  | none => exact p
  | some q => cases q with
    | ok a h => exact p
    | ex c h => exact p.elim
/-- the list that is being made changes: all else stays -/
theorem SqF.updD {K : PySem.W.Frag} {H : AH} {D a : Addr} {ws us : List V} {vs : List V} (hD : H D = some (.lst ws)) (s : SqF K H a vs) : SqF K (upd H D (.lst us)) a vs := by
  have k : ∀ b o, H b = some o → ¬ Mut (some o) → upd H D (.lst us) b = some o := fun b o e n => by
    rw [upd_ne]; exact e
    intro z; subst z; rw [hD] at e; cases e; exact n trivial
  exact ⟨s.2 _ k, fun H2 k2 => s.2 H2 fun b o e n => k2 b o (k b o e n) n⟩
mutual
theorem RM.updD {K : PySem.W.Frag} {μ : List Addr} {H : AH} {D : Addr} {ws us : List V} (hD : H D = some (.lst ws)) : ∀ {x : MV} {v : V}, RM K μ H x v → RM K μ (upd H D (.lst us)) x v
  | _, _, .non => .non
  | _, _, .bl b => .bl b
  | _, _, .int i => .int i
  | _, _, .str s => .str s
  | _, _, .tup s r => .tup (by rw [upd_ne (fun z => by subst z; rw [hD] at s; cases s)]; exact s) (RMs.updD hD r)
  | _, _, .rol s r => .rol (SqF.updD hD s) (RMs.updD hD r)
  | _, _, .ref e => .ref e
theorem RMs.updD {K : PySem.W.Frag} {μ : List Addr} {H : AH} {D : Addr} {ws us : List V} (hD : H D = some (.lst ws)) : ∀ {xs : List MV} {vs : List V}, RMs K μ H xs vs → RMs K μ (upd H D (.lst us)) xs vs
  | _, _, .nil => .nil
  | _, _, .cons r t => .cons (RM.updD hD r) (RMs.updD hD t)
end
theorem RH.updD {K : PySem.W.Frag} {μ : List Addr} {H : AH} {h : MHp} {D : Addr} {ws us : List V} (hD : H D = some (.lst ws)) (hn : D ∉ μ) (R : RH K μ H h) : RH K μ (upd H D (.lst us)) h :=
  ⟨R.len, R.nd, fun n o a e1 e2 => by
    have r := R.at_ n o a e1 e2
    cases r with
    | lst e r => exact .lst (by rw [upd_ne (fun z => hn (by rw [← z]; exact List.mem_of_getElem? e2))]; exact e) (RMs.updD hD r)⟩
theorem RE.updD {K : PySem.W.Frag} {μ : List Addr} {H : AH} {ρ : En} {σ : L2.St} {D : Addr} {ws us : List V} (hD : H D = some (.lst ws)) (r : RE K μ H ρ σ) : RE K μ (upd H D (.lst us)) ρ σ :=
  ⟨r.len, fun i v e => let ⟨x, a, b⟩ := r.at_ i v e; ⟨x, a, RM.updD hD b⟩⟩
theorem Gr.updD {μ μ' : List Addr} {H H' : AH} {D : Addr} {ws us : List V} (g : Gr μ μ' H H') (h0 : H D = none) (hD : H' D = some (.lst ws)) : Gr μ μ' H (upd H' D (.lst us)) where
  pre := g.pre
  fr := fun a o e n => by rw [upd_ne (ne_of_none e h0)]; exact g.fr a o e n
  fresh := g.fresh
  tp := fun a o e n => by rw [upd_ne (ne_of_none e h0)]; exact g.tp a o e n
mutual
theorem RM.pre {K : PySem.W.Frag} {μ ν : List Addr} {H : AH} (g : μ <+: ν) : ∀ {x : MV} {v : V}, RM K μ H x v → RM K ν H x v
  | _, _, .non => .non
  | _, _, .bl b => .bl b
  | _, _, .int i => .int i
  | _, _, .str s => .str s
  | _, _, .tup s r => .tup s (RMs.pre g r)
  | _, _, .rol s r => .rol s (RMs.pre g r)
  | _, _, .ref e => .ref (by
    obtain ⟨t, rfl⟩ := g
    obtain ⟨hn, _⟩ := List.getElem?_eq_some_iff.mp e
    rw [List.getElem?_append_left hn]; exact e)
theorem RMs.pre {K : PySem.W.Frag} {μ ν : List Addr} {H : AH} (g : μ <+: ν) : ∀ {xs : List MV} {vs : List V}, RMs K μ H xs vs → RMs K ν H xs vs
  | _, _, .nil => .nil
  | _, _, .cons r t => .cons (RM.pre g r) (RMs.pre g t)
end
/-- a list that lies there already joins my heap -/
theorem RH.add {K : PySem.W.Frag} {μ : List Addr} {H : AH} {h : MHp} {D : Addr} {xs : List MV} {vs : List V} (R : RH K μ H h) (nD : D ∉ μ) (eD : H D = some (.lst vs)) (r : RMs K μ H xs vs) : RH K (μ ++ [D]) H (h ++ [.lst xs]) := by
  refine ⟨by rw [List.length_append, List.length_append, R.len]; rfl, List.nodup_append.mpr ⟨R.nd, by simp, fun a ha b hb e => ?_⟩, fun n ob a e1 e2 => ?_⟩
  · rw [List.mem_singleton.mp hb] at e
    subst e
    exact nD ha
  · by_cases hn : n < h.length
    · rw [List.getElem?_append_left hn] at e1
      rw [List.getElem?_append_left (by rw [R.len]; exact hn)] at e2
      have r := R.at_ n ob a e1 e2
      cases r with
      | lst e r => exact .lst e (RMs.pre (List.prefix_append _ _) r)
    · have hl : n = h.length := by
        have := (List.getElem?_eq_some_iff.mp e1).1
        rw [List.length_append, List.length_singleton] at this
        omega
      subst hl
      rw [List.getElem?_append_right (Nat.le_refl _), Nat.sub_self] at e1
      rw [← R.len, List.getElem?_append_right (Nat.le_refl _), Nat.sub_self] at e2
      cases e1
      cases e2
      exact .lst eD (RMs.pre (List.prefix_append _ _) r)
theorem noEx_ne {α : Type} (o : O α) (c : String) (h : MHp) : MP.noEx o ≠ some (.ex c h) := by
  cases o with
  | none => intro z; cases z
  | some q => cases q <;> (intro z; cases z)
theorem compL_ne {f : MV → MHp → O (Option MV)} {it : Items} (hf : ∀ x h c h', f x h ≠ some (.ex c h')) : ∀ (k i : Nat) (h : MHp) (c : String) (h' : MHp), compL f it k i h ≠ some (.ex c h')
  | 0, i, h, c, h' => by
    unfold compL
    split <;> (intro z; cases z)
  | k + 1, i, h, c, h' => by
    unfold compL
    split
    · intro z; cases z
    · rename_i x _
      cases e : f x h with
      | none => intro z; cases z
      | some o => cases o with
        | ex c1 h1 => exact absurd e (hf x h c1 h1)
        | ok o h1 =>
          simp only [bnd_ok]
          cases e2 : compL f it k (i + 1) h1 with
          | none => intro z; cases z
          | some o2 => cases o2 with
            | ex c2 h2 => exact absurd e2 (compL_ne hf k (i + 1) h1 c2 h2)
            | ok ys h2 => intro z; cases z
theorem wipe_wipe (σ : L2.St) (vs : List Nat) : wipe (wipe σ vs) vs = wipe σ vs := by
  apply List.ext_getElem?
  intro j
  rw [wipe_get, wipe_get, wipe_length]
  split <;> rfl
theorem sComp0 (G : Gd L sc C X) {elt : E} {t : MP.T} {it : Ik} {c : Eo} {x tg iter : Expr} {ifs : List Expr} {scope : Scope} {pos : Pos}
    (hk : sizeOf elt < k ∧ sizeOf it < k ∧ sizeOf c < k) (hc : chkE L sc (.comp elt t it c) (.ListComp x [⟨tg, iter, ifs, 0⟩] scope pos) = true)
    (hE : ∀ (m : E), sizeOf m < k → ∀ {sc : Scope} {X : Cx}, Gd L sc C X → ∀ (e : Expr), chkE L sc m e = true → PP X e C m) : ∃ (wi : TI) (g : TG) (tt : TT) (te : TE), PI X tg iter wi ∧ BlkOk X.N X.env.scope scope (ownOf L.N t) ∧
      (∀ (s : Shared) (H : AH) (D : Addr) (cl : List (Str × Addr)) (fp : List Addr), PG (X.blk s H scope (compEnvC scope cl D X.env) fp) tg g) ∧ (∀ (s : Shared) (H : AH) (D : Addr) (cl : List (Str × Addr)) (fp : List Addr), PTs (X.blk s H scope (compEnvC scope cl D X.env) fp) ifs tt) ∧
      (∀ (s : Shared) (H : AH) (D : Addr) (cl : List (Str × Addr)) (fp : List Addr), PE (X.blk s H scope (compEnvC scope cl D X.env) fp) x te) ∧ (∀ x, foldedSetIterable iter X.env x = pure x) ∧
      ∀ σ H Q, tE X.K C (.comp elt t it c) σ H Q → tLc wi g tt te ((ownOf L.N t).map (·.2)) σ H Q := by
  unfold chkE at hc
  obtain ⟨h1, h2⟩ := ba hc
  obtain ⟨h2, h3⟩ := ba h2
  obtain ⟨h3, h4⟩ := ba h3
  obtain ⟨h4, h5⟩ := ba h4
  have bo := blkOk_by h1
  obtain ⟨hi, hfold⟩ := sI G (fun m hm e he => hE m hm G e he) it iter tg hk.2.1 h3
  have own := own_slots h2
  have ok : BlkOk X.N X.env.scope scope (ownOf L.N t) := by rw [G.N_, G.sc_]; exact bo
  refine ⟨tI X.K C it, tG X.K t, tCnd X.K C c, tE X.K C elt, hi, ok,
    (fun s H D cl fp => targ_ok (X := X.blk s H scope (compEnvC scope cl D X.env) fp) G.N_ G.nd G.calm (loc_blk G s H D cl fp) h2),
    (fun s H D cl fp => sCnd (fun m hm e he => hE m hm (G.blk bo.kind s H D cl fp) e he) c ifs hk.2.2 h4),
    (fun s H D cl fp => (hE elt hk.1 (G.blk bo.kind s H D cl fp) x h5).1), hfold X.env, fun σ H Q ⟨μ, h, ρ, R, r, p⟩ => ?_⟩
  rw [own]
  unfold evE at p
  refine ⟨μ, h, ρ, R, r, Pst.seq p (Gr.refl _ _) fun J H1 μ1 h1 its g1 R1 rJ p1 D hD => ?_⟩
  have hDμ1 : D ∉ μ1 := R1.nofresh hD
  have hHD : D ∈ μ ∨ H D = none := by
    by_cases hm : D ∈ μ
    · exact .inl hm
    · cases q : H D with
      | none => exact .inr rfl
      | some o => have := g1.fr D o q hm; rw [hD] at this; cases this
  let f : MV → MHp → O (Option MV) := fun x h => match bindT t x ρ with
      | none => none
      | some ρ1 => MP.noEx (bnd (evC C ρ1 c h) fun b h2 => if b then bnd (evE C ρ1 elt h2) fun y h3 => MP.ret (some y) h3 else MP.ret none h2)
  let fin : List MV → MHp → O MV := fun ys h2 => if ys.length ≤ big then gcR h.length (MP.new (.lst ys) h2) else none
  have p1 : Pst X.K μ H NoX (RM X.K) (bnd (compL f its (countI its) 0 h1) fin) Q := p1
  let W : Nat → Nat → AH → Prop := fun i m Hc => ∃ μc hc acc vs, Gr μ1 μc H1 Hc ∧ RH X.K μc Hc hc ∧ D ∉ μc ∧ Hc D = some (.lst vs) ∧ RMs X.K μc Hc acc vs ∧ Pst X.K μ H NoX (RM X.K) (bnd (compL f its m i hc) fun rest h2 => fin (acc ++ rest) h2) Q
  refine ⟨W, ⟨countI its, μ1, h1, [], [], Gr.new0 hD, R1.new0 hD, hDμ1, upd_same, .nil, p1⟩, ?_⟩
  rintro i m Hc ⟨μc, hc, acc, vs, gc1, Rc, nD, eD, ra, pc⟩
  have rr : RE X.K μc Hc ρ σ := (r.gr g1).gr gc1
  cases m with
  | zero =>
    left
    unfold compL at pc
    split at pc
    case isFalse => exact pc.elim
    rename_i hl
    refine ⟨(rJ μc Hc hc gc1 Rc i).2 hl, ?_⟩
    have pc : Pst X.K μ H NoX (RM X.K) (if (acc ++ ([] : List MV)).length ≤ big then gcR h.length (MP.new (.lst (acc ++ [])) hc) else none) Q := pc
    rw [List.append_nil] at pc
    split at pc
    case isFalse => exact pc.elim
    have pu := pc.ungc R.len.symm (Gr.refl μ H)
    have g := g1.trans gc1
    refine pu (μc ++ [D]) Hc (.ref D) ⟨g.pre.trans (List.prefix_append _ _), g.fr, fun a hm => ?_, g.tp⟩ (RH.add Rc nD eD ra) (.ref ?_)
    · rcases List.mem_append.mp hm with z | z
      · exact g.fresh a z
      · rw [List.mem_singleton.mp z]; exact hHD
    · rw [← Rc.len, List.getElem?_append_right (Nat.le_refl _), Nat.sub_self]; rfl
  | succ m =>
    right
    unfold compL at pc
    cases e : itemI hc i its with
    | none => simp only [e] at pc; exact pc.elim
    | some u =>
      simp only [e] at pc
      rw [bnd_assoc] at pc
      obtain ⟨hgo, hy⟩ := (rJ μc Hc hc gc1 Rc i).1 u e
      refine ⟨hgo, W (i + 1) m, fun H' w => ⟨m, Nat.lt_succ_self _, w⟩, fun x H' yx => ?_⟩
      obtain ⟨g2, R2, rx⟩ := hy x H' yx
      have eD2 : H' D = some (.lst vs) := g2.fr D _ eD nD
      cases eb : bindT t u ρ with
      | none =>
        have : f u hc = none := by show (match bindT t u ρ with | none => none | some ρ1 => _) = none; rw [eb]
        rw [this] at pc; exact pc.elim
      | some ρ1 =>
        have ef : f u hc = MP.noEx (bnd (evC C ρ1 c hc) fun b h2 => if b then bnd (evE C ρ1 elt h2) fun y h3 => MP.ret (some y) h3 else MP.ret none h2) := by
          show (match bindT t u ρ with | none => none | some ρ1 => _) = _
          rw [eb]
        rw [ef] at pc
        have pc := pc.noEx
        rw [bnd_assoc] at pc
        refine ⟨μc, hc, ρ, u, ρ1, R2, ?_, rx, eb, fun σ2 r2 hw => ⟨by rw [hw, wipe_wipe], μc, hc, ρ1, R2, r2, ?_⟩⟩
        · have r3 := rr.gr g2
          refine ⟨by rw [wipe_length]; exact r3.len, fun j v hj ej => ?_⟩
          obtain ⟨y, ey, ry⟩ := r3.at_ j v ej
          refine ⟨y, ?_, ry⟩
          rw [wipe_get, if_neg (fun z => hj z.1)]
          exact ey
        have gB : Gr μ μc H H' := (g1.trans gc1).trans g2
        refine Pst.seq pc gB fun b H3 μ3 h3 b' g3 R3 eb' p3 => ?_
        cases eb'
        have nD3 : D ∉ μ3 := fun z => (g3.fresh D z).elim nD fun w => by rw [eD2] at w; cases w
        have eD3 : H3 D = some (.lst vs) := g3.fr D _ eD2 nD
        have gT : Gr μ1 μ3 H1 H3 := (gc1.trans g2).trans g3
        cases b with
        | false =>
          show W (i + 1) m H3
          refine ⟨μ3, h3, acc, vs, gT, R3, nD3, eD3, ra.gr (g2.trans g3), ?_⟩
          have p3 : Pst X.K μ H NoX (RM X.K) (bnd (bnd (compL f its m (i + 1) h3) fun ys h2 => MP.ret ys h2) fun rest h2 => fin (acc ++ rest) h2) Q := p3
          rw [bnd_assoc] at p3
          exact p3
        | true =>
          show tE X.K C elt σ2 H3 _
          have p3 : Pst X.K μ H NoX (RM X.K) (bnd (bnd (evE C ρ1 elt h3) fun y h3 => MP.ret (some y) h3) fun o h1 => bnd (bnd (compL f its m (i + 1) h1) fun ys h2 => MP.ret (match o with | none => ys | some y => y :: ys) h2) fun rest h2 => fin (acc ++ rest) h2) Q := p3
          rw [bnd_assoc] at p3
          refine ⟨μ3, h3, ρ1, R3, r2.gr g3, Pst.seq p3 (gB.trans g3) fun y H4 μ4 h4 w g4 R4 ry p4 => ?_⟩
          have nD4 : D ∉ μ4 := fun z => (g4.fresh D z).elim nD3 fun w => by rw [eD3] at w; cases w
          have eD4 : H4 D = some (.lst vs) := g4.fr D _ eD3 nD3
          have p4 : Pst X.K μ H NoX (RM X.K) (bnd (bnd (compL f its m (i + 1) h4) fun ys h2 => MP.ret (w :: ys) h2) fun rest h2 => fin (acc ++ rest) h2) Q := p4
          rw [bnd_assoc] at p4
          have p4 : Pst X.K μ H NoX (RM X.K) (bnd (compL f its m (i + 1) h4) fun ys h2 => fin (acc ++ w :: ys) h2) Q := p4
          have ra4 : RMs X.K μ4 H4 acc vs := ra.gr ((g2.trans g3).trans g4)
          have hlen : acc.length < big := by
            cases q : compL f its m (i + 1) h4 with
            | none => rw [q] at p4; exact p4.elim
            | some o => cases o with
              | ex c5 h5 =>
                refine absurd q (compL_ne (fun x h c h' => ?_) m (i + 1) h4 c5 h5)
                show (match bindT t x ρ with | none => none | some ρ1 => _) ≠ _
                split
                · intro z; cases z
                · exact noEx_ne _ _ _
              | ok ys h5 =>
                rw [q] at p4
                have p4 : Pst X.K μ H NoX (RM X.K) (if (acc ++ w :: ys).length ≤ big then gcR h.length (MP.new (.lst (acc ++ w :: ys)) h5) else none) Q := p4
                split at p4
                case isFalse => exact p4.elim
                rename_i hl
                rw [List.length_append, List.length_cons] at hl
                omega
          refine ⟨vs, eD4, by rw [← ra4.length, ← big_eq]; exact hlen, μ4, h4, acc ++ [w], vs ++ [y], Gr.updD (gT.trans g4) hD eD4, R4.updD eD4 nD4, nD4, upd_same, RMs.updD eD4 (ra4.append (.cons ry .nil)), ?_⟩
          have ea : ∀ ys : List MV, acc ++ [w] ++ ys = acc ++ w :: ys := fun ys => by simp
          simp only [ea]
          exact p4
theorem sComp (G : Gd L sc C X) {elt : E} {t : MP.T} {it : Ik} {c : Eo} {x tg iter : Expr} {ifs : List Expr} {scope : Scope} {pos : Pos}
    (hk : sizeOf elt < k ∧ sizeOf it < k ∧ sizeOf c < k) (hc : chkE L sc (.comp elt t it c) (.ListComp x [⟨tg, iter, ifs, 0⟩] scope pos) = true)
    (hE : ∀ (m : E), sizeOf m < k → ∀ {sc : Scope} {X : Cx}, Gd L sc C X → ∀ (e : Expr), chkE L sc m e = true → PP X e C m) : PE X (.ListComp x [⟨tg, iter, ifs, 0⟩] scope pos) (tE X.K C (.comp elt t it c)) := by
  obtain ⟨wi, g, tt, te, hi, ok, hg, ht, he, hf, imp⟩ := sComp0 G hk hc hE
  exact wkE (pe_lc G.calm (by rw [G.N_]; exact G.nd) hi ok hg ht he hf) imp
end
end MP
/-! MP15: every expression. -/
namespace MP
open PySem PySem.Spec PyProof.Rows L2
section
variable {L : Lk} {C : Ora}
theorem plain_ix {L : Lk} {sc : Scope} {m : E} {y : Expr} (h : chkE L sc m y = true) (hs : ixB y = true) : PlainIx y := by
  cases y <;> first | (exact fun _ _ => rfl) | (cases hs; done) | skip
theorem few_ok (pos : Pos) {es : Es} {l : List Expr} {sc : Scope} (env : Env) (h : chkEs L sc es l = true) (hl : l.length < 29) :
    ((backTo pos (starEach l env)).all (fun x => !x.1) && (backToKw pos (keywordEach [] env)).all (fun x => x.1.isSome) && decide (l.length + ([] : List Keyword).length + (if ([] : List Keyword).isEmpty then 0 else 1) < 30)) = true := by
  obtain ⟨h1, h2⟩ := stars_ok env h
  have e1 : (backTo pos (starEach l env)).all (fun x => !x.1) = true := by
    unfold backTo
    rw [List.all_map]
    rw [List.all_eq_true] at h1 ⊢
    intro x hx
    exact h1 x hx
  rw [e1]
  have e2 : (backToKw pos (keywordEach [] env)).all (fun x => x.1.isSome) = true := rfl
  rw [e2]
  show decide (l.length + 0 + 0 < 30) = true
  exact decide_eq_true (by omega)
def tIfT (t u v : TT) : TT := fun σ H Q => t σ H fun c H1 => if c = true then u σ H1 Q else v σ H1 Q
theorem pt_ifE {X : Cx} {c a b : Expr} {pos : Pos} {t u v : TT} (hc : PT X c t) (ha : PT X a u) (hb : PT X b v) : PT X (.IfExp c a b pos) (tIfT t u v) := by
  refine ⟨fun pins s σ H Q I h => isTrue_IfExp (thn (hc.run pins s σ H _ I h) fun d s1 ⟨H1, I1, q1⟩ => ?_)⟩
  cases d with
  | true => exact ha.run pins s1 σ H1 Q I1 q1
  | false => exact hb.run pins s1 σ H1 Q I1 q1
theorem base_ok {L : Lk} {sc : Scope} {m : E} {e : Expr} (h : chkE L sc m e = true) (n : Str) (env : Env) (w : Sem Value) : attributeBase e n env w = w := by
  cases e <;> first | rfl | skip
  rename_i fe args kws pos
  cases fe <;> first | rfl | skip
  cases args with
  | cons _ _ => rfl
  | nil =>
    exfalso
    cases m <;> cases kws <;> simp [chkE] at h
def tOM (K : PySem.W.Frag) (C : Ora) (o : Eo) : L2.St → AH → (Option Int → AH → Prop) → Prop := fun σ H Q => ∃ μ h ρ, RH K μ H h ∧ RE K μ H ρ σ ∧ Pst K μ H NoX (fun _ _ a b => a = b) (evO C ρ o h) Q
theorem sOpt {X : Cx} {sc : Scope} {k : Nat} (hE : ∀ (m : E), sizeOf m < k → ∀ (e : Expr), chkE L sc m e = true → PP X e C m) : ∀ (o : Eo) (e : Option Expr), sizeOf o < k → chkO L sc o e = true → PO X e (tOM X.K C o)
  | .none, none, _, _ => ⟨fun pins s σ H Q I ⟨μ, h, ρ, R, r, p⟩ => po_none.run pins s σ H Q I (by unfold evO at p; exact p.ret R rfl)⟩
  | .some m, some x, hk, hc => by
    rw [Eo.some.sizeOf_spec] at hk
    unfold chkO at hc
    refine ⟨fun pins s σ H Q I ⟨μ, h, ρ, R, r, p⟩ => (po_some (hE m (by omega) x hc).1).run pins s σ H Q I ?_⟩
    unfold evO at p
    refine ⟨μ, h, ρ, R, r, Pst.seq p (Gr.refl _ _) fun z H1 μ1 h1 u g1 R1 r1 p1 => ?_⟩
    cases r1 with
    | int i => exact ⟨i, rfl, p1 μ1 H1 _ g1 R1 rfl⟩
    | _ => exact p1.elim
  | .none, some _, _, h => by unfold chkO at h; cases h
  | .some _, none, _, h => by unfold chkO at h; cases h
theorem evCh_bl {ρ : En} : ∀ {c : Ch} {u : MV} {h h' : MHp} {w : MV}, evCh C ρ c u h = some (.ok w h') → ∃ b, w = .bl b
  | .one op b, u, h, h', w, e => by
    unfold evCh at e
    cases q : evE C ρ b h with
    | none => rw [q] at e; cases e
    | some o => cases o with
      | ex _ _ => rw [q] at e; cases e
      | ok v h1 =>
        rw [q] at e
        simp only [bnd_ok] at e
        split at e
        · cases e; exact ⟨_, rfl⟩
        · cases e
  | .more op b c, u, h, h', w, e => by
    unfold evCh at e
    cases q : evE C ρ b h with
    | none => rw [q] at e; cases e
    | some o => cases o with
      | ex _ _ => rw [q] at e; cases e
      | ok v h1 =>
        rw [q] at e
        simp only [bnd_ok] at e
        split at e
        · exact evCh_bl e
        · cases e; exact ⟨_, rfl⟩
        · cases e
theorem toB {K : PySem.W.Frag} {μ : List Addr} {H : AH} {o : O MV} {Q : Bool → AH → Prop} (p : Pst K μ H NoX (RM K) o fun z H3 => ∃ c, z = .bl c ∧ Q c H3) (k : ∀ h' w, o = some (.ok w h') → ∃ b, w = .bl b) : Pst K μ H NoX RB (bnd o asB) Q := by
  unfold Pst at *
  cases o with
  | none => exact p
  | some q => cases q with
    | ex c h => exact p
    | ok v h =>
      obtain ⟨b, rfl⟩ := k h v rfl
      intro μ' H' z g R e
      cases e
      obtain ⟨c, ec, q⟩ := p μ' H' (.bl b) g R (.bl b)
      cases ec
      exact q
theorem sE : ∀ (k : Nat) (m : E), sizeOf m < k → ∀ (sc : Scope) (X : Cx), Gd L sc C X → ∀ (e : Expr), chkE L sc m e = true → PP X e C m
  | 0, _, h, _, _, _, _, _ => absurd h (by omega)
  | k + 1, m, hm, sc, X, G, e, hc => by
    have hE : ∀ (m : E), sizeOf m < k → ∀ (e : Expr), chkE L sc m e = true → PP X e C m := fun m h e he => sE k m h sc X G e he
    cases m with
    | non =>
      cases e <;> first | (unfold chkE at hc; cases hc; done) | skip
      rename_i v j pos
      cases v <;> first | (unfold chkE at hc; cases hc; done) | skip
      exact vT (wkE pe_non fun σ H Q ⟨μ, h, ρ, R, r, p⟩ => by unfold evE at p; exact p.ret R .non) fun _ => rfl
    | bl b =>
      cases e <;> first | (unfold chkE at hc; cases hc; done) | skip
      rename_i v j pos
      cases v <;> first | (unfold chkE at hc; cases hc; done) | skip
      unfold chkE at hc
      have := eq_of_beq hc
      subst this
      exact vT (wkE pe_bl fun σ H Q ⟨μ, h, ρ, R, r, p⟩ => by unfold evE at p; exact p.ret R (.bl _)) fun _ => rfl
    | int i =>
      cases e <;> first | (unfold chkE at hc; cases hc; done) | skip
      rename_i v j pos
      cases v <;> first | (unfold chkE at hc; cases hc; done) | skip
      unfold chkE at hc
      have := of_decide_eq_true hc
      subst this
      exact vT (wkE pe_int fun σ H Q ⟨μ, h, ρ, R, r, p⟩ => by unfold evE at p; exact p.ret R (.int _)) fun _ => rfl
    | str s =>
      cases e <;> first | (unfold chkE at hc; cases hc; done) | skip
      rename_i v j pos
      cases v <;> first | (unfold chkE at hc; cases hc; done) | skip
      unfold chkE at hc
      have := of_decide_eq_true hc
      subst this
      exact vT (wkE pe_str fun σ H Q ⟨μ, h, ρ, R, r, p⟩ => by unfold evE at p; exact p.ret R (.str _)) fun _ => rfl
    | var i =>
      cases e <;> first | (unfold chkE at hc; cases hc; done) | skip
      rename_i x pos
      unfold chkE at hc
      obtain ⟨h1, h2⟩ := ba hc
      obtain ⟨v1, v2, v3⟩ := G.vis h2
      refine vT (wkE (pe_var (i := i) (by rw [G.N_]; exact of_decide_eq_true h1) v1 v2 v3) fun σ H Q ⟨μ, h, ρ, R, r, p⟩ => ?_) fun _ => rfl
      unfold evE at p
      split at p
      · rename_i v ev
        obtain ⟨z, ez, rz⟩ := r.at_ i v ev
        exact ⟨z, ez, p.ret R rz⟩
      · exact p.elim
    | glb x s =>
      cases e <;> first | (unfold chkE at hc; cases hc; done) | skip
      rename_i y pos
      unfold chkE at hc
      obtain ⟨h1, h2⟩ := ba hc
      obtain ⟨h1, h3⟩ := ba h1
      have := of_decide_eq_true h1
      subst this
      obtain ⟨g1, g2, _⟩ := G.gl h3
      obtain ⟨t, ht⟩ := G.glb x s (of_decide_eq_true h2)
      exact vT (wkE (pe_glob (v := .str (ofS s)) g1 ht ⟨t, rfl⟩ g2) fun σ H Q ⟨μ, h, ρ, R, r, p⟩ => by unfold evE at p; exact p.ret R (.str _)) fun _ => rfl
    | bin op a b =>
      rw [E.bin.sizeOf_spec] at hm
      cases e <;> first | (unfold chkE at hc; cases hc; done) | skip
      rename_i l o r' pos
      unfold chkE at hc
      obtain ⟨h1, h2⟩ := ba hc
      obtain ⟨h2, h3⟩ := ba h2
      have := opB_ok h1
      subst this
      refine vT (wkE (pe_op (op_bin (EX := NoX) op) (hE a (by omega) l h2).1 (hE b (by omega) r' h3).1) fun σ H Q ⟨μ, h, ρ, R, r, p⟩ => ?_) fun _ => rfl
      unfold evE at p
      refine ⟨μ, h, ρ, R, r, Pst.seq p (Gr.refl _ _) fun x H1 μ1 h1 u g1 R1 r1 p1 => ⟨μ1, h1, ρ, R1, r.gr g1, Pst.seq p1 g1 fun y H2 μ2 h2 w g2 R2 r2 p2 => ?_⟩⟩
      exact ⟨μ2, h2, u, w, R2, r1.gr g2, r2, p2.ungc R.len.symm (g1.trans g2)⟩
    | neg a =>
      rw [E.neg.sizeOf_spec] at hm
      cases e <;> first | (unfold chkE at hc; cases hc; done) | skip
      rename_i o e pos
      unfold chkE at hc
      obtain ⟨h1, h2⟩ := ba hc
      cases o <;> try (cases h1; done)
      refine vT (wkE (pe_un un_neg (hE a (by omega) e h2).1) fun σ H Q ⟨μ, h, ρ, R, r, p⟩ => ?_) fun _ => rfl
      unfold evE at p
      refine ⟨μ, h, ρ, R, r, Pst.seq p (Gr.refl _ _) fun x H1 μ1 h1 u g1 R1 r1 p1 => ?_⟩
      cases r1 with
      | int i => exact ⟨i, rfl, p1 μ1 H1 _ g1 R1 (.int _)⟩
      | _ => exact p1.elim
    | not a =>
      rw [E.not.sizeOf_spec] at hm
      cases e <;> first | (unfold chkE at hc; cases hc; done) | skip
      rename_i o e pos
      unfold chkE at hc
      obtain ⟨h1, h2⟩ := ba hc
      cases o <;> try (cases h1; done)
      obtain ⟨a1, a2⟩ := hE a (by omega) e h2
      refine ⟨wkE (pe_not a1) fun σ H Q ⟨μ, h, ρ, R, r, p⟩ => ?_, wkT (pt_not a2) fun σ H Q ⟨μ, h, ρ, R, r, p⟩ => ?_⟩
      · unfold evE at p
        refine ⟨μ, h, ρ, R, r, Pst.seq p (Gr.refl _ _) fun x H1 μ1 h1 u g1 R1 r1 p1 => ?_⟩
        obtain ⟨c, rfl, p1⟩ := asB_bl' p1
        cases r1
        exact ⟨c, rfl, p1 μ1 H1 _ g1 R1 (.bl _)⟩
      · unfold evE at p
        have e3 : (bnd (bnd (evE C ρ a h) fun x h1 => bnd (asB x h1) fun b h2 => MP.ret (.bl (!b)) h2) asB) = bnd (bnd (evE C ρ a h) asB) fun b h2 => MP.ret (!b) h2 := by
          cases evE C ρ a h with
          | none => rfl
          | some o => cases o with
            | ex c h => rfl
            | ok v h => cases v <;> rfl
        rw [e3] at p
        exact ⟨μ, h, ρ, R, r, Pst.seq p (Gr.refl _ _) fun b H1 μ1 h1 b' g1 R1 r1 p1 => by cases r1; exact p1 μ1 H1 _ g1 R1 rfl⟩
    | and es =>
      rw [E.and.sizeOf_spec] at hm
      cases e <;> first | (unfold chkE at hc; cases hc; done) | skip
      rename_i o l pos
      unfold chkE at hc
      obtain ⟨h1, h2⟩ := ba hc
      cases o <;> try (cases h1; done)
      by_cases hl : l = []
      · subst hl
        have hn : ∀ h ρ, evE C ρ (.and es) h = none := fun h ρ => by
          cases es with
          | nil => unfold evE evAnd; rfl
          | cons _ _ => unfold chkEs at h2; cases h2
        exact ⟨⟨fun pins s σ H Q I ⟨μ, h, ρ, R, r, p⟩ => by rw [hn] at p; exact p.elim⟩, ⟨fun pins s σ H Q I ⟨μ, h, ρ, R, r, p⟩ => by rw [hn] at p; exact p.elim⟩⟩
      · obtain ⟨b1, b2⟩ := sAnd hE (pos := pos) es l (by omega) hl h2
        exact ⟨wkE b1 fun σ H Q ⟨μ, h, ρ, R, r, p⟩ => by unfold evE at p; exact ⟨μ, h, ρ, R, r, p⟩, wkT b2.pt fun σ H Q ⟨μ, h, ρ, R, r, p⟩ => by unfold evE at p; exact ⟨μ, h, ρ, R, r, p⟩⟩
    | or es =>
      rw [E.or.sizeOf_spec] at hm
      cases e <;> first | (unfold chkE at hc; cases hc; done) | skip
      rename_i o l pos
      unfold chkE at hc
      obtain ⟨h1, h2⟩ := ba hc
      cases o <;> try (cases h1; done)
      by_cases hl : l = []
      · subst hl
        have hn : ∀ h ρ, evE C ρ (.or es) h = none := fun h ρ => by
          cases es with
          | nil => unfold evE evOr; rfl
          | cons _ _ => unfold chkEs at h2; cases h2
        exact ⟨⟨fun pins s σ H Q I ⟨μ, h, ρ, R, r, p⟩ => by rw [hn] at p; exact p.elim⟩, ⟨fun pins s σ H Q I ⟨μ, h, ρ, R, r, p⟩ => by rw [hn] at p; exact p.elim⟩⟩
      · obtain ⟨b1, b2⟩ := sOr hE (pos := pos) es l (by omega) hl h2
        exact ⟨wkE b1 fun σ H Q ⟨μ, h, ρ, R, r, p⟩ => by unfold evE at p; exact ⟨μ, h, ρ, R, r, p⟩, wkT b2.pt fun σ H Q ⟨μ, h, ρ, R, r, p⟩ => by unfold evE at p; exact ⟨μ, h, ρ, R, r, p⟩⟩
    | cmp op a b =>
      rw [E.cmp.sizeOf_spec] at hm
      cases e <;> first | (unfold chkE at hc; cases hc; done) | skip
      rename_i l os rs pos
      unfold chkE at hc
      rcases os with _ | ⟨o, _ | ⟨o2, os⟩⟩
      · cases hc
      · rcases rs with _ | ⟨r', _ | ⟨r2, rs⟩⟩
        · cases hc
        · obtain ⟨h1, h2⟩ := ba hc
          obtain ⟨h2, h3⟩ := ba h2
          have := cmpB_ok h1
          subst this
          have ha := (hE a (by omega) l h2).1
          have hb := (hE b (by omega) r' h3).1
          have hbm : behindInMarks (cmpOf op) r' = false := by
            cases r' <;> first | rfl | (exfalso; cases b <;> (unfold chkE at h3; cases h3))
          have key : ∀ {μ : List Addr} {h : MHp} {ρ : En} {σ : L2.St} {H : AH} {Q : VK}, RH X.K μ H h → RE X.K μ H ρ σ → Pst X.K μ H NoX (RM X.K) (evE C ρ (.cmp op a b) h) Q → tOp (rCmp X.K op) (tE X.K C a) (tE X.K C b) σ H Q := @fun μ h ρ σ H Q R r p => by
            unfold evE at p
            refine ⟨μ, h, ρ, R, r, Pst.seq p (Gr.refl _ _) fun x H1 μ1 h1 u g1 R1 r1 p1 => ⟨μ1, h1, ρ, R1, r.gr g1, Pst.seq p1 g1 fun y H2 μ2 h2 w g2 R2 r2 p2 => ?_⟩⟩
            cases ec : cmpV op u w h2 with
            | none => simp only [ec] at p2; exact p2.elim
            | some c =>
              simp only [ec] at p2
              exact ⟨μ2, h2, u, w, c, R2, r1.gr g2, r2, ec, (p2.ungc R.len.symm (g1.trans g2)).ret R2 (.bl c)⟩
          exact ⟨wkE (pe_cmpR (op_cmp G.hu op) ha hb hbm) fun σ H Q ⟨μ, h, ρ, R, r, p⟩ => key R r p,
            wkT (pt_cmpR (op_cmp G.hu op) ha hb hbm) fun σ H Q ⟨μ, h, ρ, R, r, p⟩ => key R r p.asB⟩
        · cases hc
      · cases rs with
        | nil => cases hc
        | cons r' rs => cases rs <;> cases hc
    | chn a c =>
      rw [E.chn.sizeOf_spec] at hm
      cases e <;> first | (unfold chkE at hc; cases hc; done) | skip
      rename_i l os rs pos
      have hc0 := hc
      unfold chkE at hc
      have hc2 : chkE L sc a l = true ∧ chkCh L sc c os rs = true := by
        rcases os with _ | ⟨o, _ | ⟨o2, os⟩⟩ <;> rcases rs with _ | ⟨r', _ | ⟨r2, rs⟩⟩ <;> exact ba hc
      obtain ⟨h1, h2⟩ := hc2
      have ha := (hE a (by omega) l h1).1
      rcases os with _ | ⟨o, _ | ⟨o2, os⟩⟩
      · cases c <;> (unfold chkCh at h2; cases h2)
      · -- one comparison alone: not of this form
        rcases rs with _ | ⟨r', rs⟩
        · cases c <;> (unfold chkCh at h2; cases h2)
        · cases rs with
          | nil =>
            cases c with
            | one op b =>
              rw [Ch.one.sizeOf_spec] at hm
              unfold chkCh at h2
              obtain ⟨h3, h4⟩ := ba h2
              have := cmpB_ok h3
              subst this
              have hb := (hE b (by omega) r' h4).1
              have hbm : behindInMarks (cmpOf op) r' = false := by
                cases r' <;> first | rfl | (exfalso; cases b <;> (unfold chkE at h4; cases h4))
              have key : ∀ {μ : List Addr} {h : MHp} {ρ : En} {σ : L2.St} {H : AH} {Q : VK}, RH X.K μ H h → RE X.K μ H ρ σ → Pst X.K μ H NoX (RM X.K) (evE C ρ (.chn a (.one op b)) h) Q → tOp (rCmp X.K op) (tE X.K C a) (tE X.K C b) σ H Q := @fun μ h ρ σ H Q R r p => by
                unfold evE at p
                refine ⟨μ, h, ρ, R, r, Pst.seq p (Gr.refl _ _) fun x H1 μ1 h1 u g1 R1 r1 p1 => ?_⟩
                have p1' := p1.ungc R.len.symm g1
                unfold evCh at p1'
                refine ⟨μ1, h1, ρ, R1, r.gr g1, Pst.seq p1' (Gr.refl _ _) fun y H2 μ2 h2 w g2 R2 r2 p2 => ?_⟩
                cases ec : cmpV op u w h2 with
                | none => simp only [ec] at p2; exact p2.elim
                | some c =>
                  simp only [ec] at p2
                  exact ⟨μ2, h2, u, w, c, R2, r1.gr g2, r2, ec, p2 μ2 H2 _ g2 R2 (.bl c)⟩
              exact ⟨wkE (pe_cmpR (op_cmp G.hu op) ha hb hbm) fun σ H Q ⟨μ, h, ρ, R, r, p⟩ => key R r p,
                wkT (pt_cmpR (op_cmp G.hu op) ha hb hbm) fun σ H Q ⟨μ, h, ρ, R, r, p⟩ => key R r p.asB⟩
            | more _ _ c => unfold chkCh at h2; obtain ⟨_, h2⟩ := ba h2; obtain ⟨_, h2⟩ := ba h2; cases c <;> (unfold chkCh at h2; cases h2)
          | cons r2 rs => cases c with
            | one _ _ => unfold chkCh at h2; cases h2
            | more _ _ c => unfold chkCh at h2; obtain ⟨_, h2⟩ := ba h2; obtain ⟨_, h2⟩ := ba h2; cases c <;> cases rs <;> (unfold chkCh at h2; cases h2)
      · rcases rs with _ | ⟨r', _ | ⟨r2, rs⟩⟩
        · cases c <;> (unfold chkCh at h2; cases h2)
        · cases c with
          | one _ _ => unfold chkCh at h2; cases h2
          | more _ _ c => unfold chkCh at h2; obtain ⟨_, h2⟩ := ba h2; obtain ⟨_, h2⟩ := ba h2; cases c <;> cases os <;> (unfold chkCh at h2; cases h2)
        · have hl := last_ok c _ _ h2
          refine ⟨⟨fun pins s σ H Q I ⟨μ, h, ρ, R, r, p⟩ => Compare_chain ?_ hl⟩, ⟨fun pins s σ H Q I ⟨μ, h, ρ, R, r, p⟩ => isTrue_chain ?_ hl⟩⟩
          · unfold evE at p
            refine thn (ha.run pins s σ H (fun x H1 => ∃ μ1 h1 u, Gr μ μ1 H H1 ∧ RH X.K μ1 H1 h1 ∧ RM X.K μ1 H1 u x ∧ Pst X.K μ1 H1 NoX (RM X.K) (evCh C ρ c u h1) Q) I ⟨μ, h, ρ, R, r, Pst.seq p (Gr.refl _ _) fun x H1 μ1 h1 u g1 R1 r1 p1 => ⟨μ1, h1, u, g1, R1, r1, p1.ungc R.len.symm g1⟩⟩) fun v s1 ⟨x, H1, I1, rx, μ1, h1, u, g1, R1, r1, p1⟩ => ?_
            exact (sCh G.hu hE c _ _ (by omega) h2 pins s1 σ H1 H1 x v u μ1 μ1 h1 ρ I1 rx R1 (r.gr g1) r1 (Gr.refl _ _)).1 Q p1
          · have p := p.asB
            unfold evE at p
            refine thn (ha.run pins s σ H (fun x H1 => ∃ μ1 h1 u, Gr μ μ1 H H1 ∧ RH X.K μ1 H1 h1 ∧ RM X.K μ1 H1 u x ∧ Pst X.K μ1 H1 NoX (RM X.K) (evCh C ρ c u h1) (fun z H3 => ∃ c, z = .bl c ∧ Q c H3)) I ⟨μ, h, ρ, R, r, Pst.seq p (Gr.refl _ _) fun x H1 μ1 h1 u g1 R1 r1 p1 => ⟨μ1, h1, u, g1, R1, r1, p1.ungc R.len.symm g1⟩⟩) fun v s1 ⟨x, H1, I1, rx, μ1, h1, u, g1, R1, r1, p1⟩ => ?_
            refine (sCh G.hu hE c _ _ (by omega) h2 pins s1 σ H1 H1 x v u μ1 μ1 h1 ρ I1 rx R1 (r.gr g1) r1 (Gr.refl _ _)).2 Q (toB p1 ?_)
            intro h' w e
            exact evCh_bl e
    | ite c a b =>
      rw [E.ite.sizeOf_spec] at hm
      cases e <;> first | (unfold chkE at hc; cases hc; done) | skip
      rename_i t x y pos
      unfold chkE at hc
      obtain ⟨h1, h2⟩ := ba hc
      obtain ⟨h2, h3⟩ := ba h2
      refine ⟨wkE (pe_ifExp (hE c (by omega) t h1).2 (hE a (by omega) x h2).1 (hE b (by omega) y h3).1) fun σ H Q ⟨μ, h, ρ, R, r, p⟩ => ?_, wkT (pt_ifE (hE c (by omega) t h1).2 (hE a (by omega) x h2).2 (hE b (by omega) y h3).2) fun σ H Q ⟨μ, h, ρ, R, r, p⟩ => ?_⟩
      case refine_2 =>
        unfold evE at p
        have e3 : (bnd (bnd (evE C ρ c h) fun x h1 => bnd (asB x h1) fun t h2 => if t = true then evE C ρ a h2 else evE C ρ b h2) asB) = bnd (bnd (evE C ρ c h) asB) fun t h2 => if t = true then bnd (evE C ρ a h2) asB else bnd (evE C ρ b h2) asB := by
          rw [bnd_assoc, bnd_assoc]
          congr 1
          funext x h1
          rw [bnd_assoc]
          congr 1
          funext t h2
          cases t <;> rfl
        rw [e3] at p
        refine ⟨μ, h, ρ, R, r, Pst.seq p (Gr.refl _ _) fun b' H1 μ1 h1 u g1 R1 r1 p1 => ?_⟩
        cases r1
        cases b' with
        | true => exact ⟨μ1, h1, ρ, R1, r.gr g1, p1.gr g1⟩
        | false => exact ⟨μ1, h1, ρ, R1, r.gr g1, p1.gr g1⟩
      unfold evE at p
      have p' : Pst X.K μ H NoX (RM X.K) (bnd (bnd (evE C ρ c h) asB) fun t h2 => if t = true then evE C ρ a h2 else evE C ρ b h2) Q := by rw [bnd_assoc]; exact p
      refine ⟨μ, h, ρ, R, r, Pst.seq p' (Gr.refl _ _) fun b' H1 μ1 h1 u g1 R1 r1 p1 => ?_⟩
      cases r1
      cases b' with
      | true => exact ⟨μ1, h1, ρ, R1, r.gr g1, p1.gr g1⟩
      | false => exact ⟨μ1, h1, ρ, R1, r.gr g1, p1.gr g1⟩
    | tup es =>
      rw [E.tup.sizeOf_spec] at hm
      cases e <;> first | (unfold chkE at hc; cases hc; done) | skip
      rename_i l j pos
      unfold chkE at hc
      refine vT (wkE (pe_tup (sArgs hE es l (by omega) hc)) fun σ H Q ⟨μ, h, ρ, R, r, p⟩ => ?_) fun _ => rfl
      unfold evE at p
      refine ⟨μ, h, ρ, R, r, Pst.seq p (Gr.refl _ _) fun xs H1 μ1 h1 us g1 R1 r1 p1 => ?_⟩
      split at p1
      case isFalse => exact p1.elim
      rename_i hl
      refine ⟨by rw [← r1.length, ← big_eq]; exact hl, fun q hq => (p1.gr g1).newT R1 r1 hq⟩
    | lst es =>
      rw [E.lst.sizeOf_spec] at hm
      cases e <;> first | (unfold chkE at hc; cases hc; done) | skip
      rename_i l pos
      unfold chkE at hc
      refine vT (wkE (pe_lst (sArgs hE es l (by omega) hc)) fun σ H Q ⟨μ, h, ρ, R, r, p⟩ => ?_) fun _ => rfl
      unfold evE at p
      refine ⟨μ, h, ρ, R, r, Pst.seq p (Gr.refl _ _) fun xs H1 μ1 h1 us g1 R1 r1 p1 => ?_⟩
      split at p1
      case isFalse => exact p1.elim
      rename_i hl
      exact ⟨by rw [← r1.length, ← big_eq]; exact hl, fun q hq => (p1.gr g1).new R1 r1 hq⟩
    | call f es =>
      rw [E.call.sizeOf_spec] at hm
      cases e <;> first | (unfold chkE at hc; cases hc; done) | skip
      rename_i fe l kw pos
      cases fe <;> first | (unfold chkE at hc; cases hc; done) | skip
      rename_i x px
      cases kw with
      | cons _ _ => unfold chkE at hc; cases hc
      | nil =>
        unfold chkE at hc
        have hc : (decide (x = Str.ofString f) && glB sc x && decide (f ∈ L.dn) && decide (l ≠ []) && chkEs L sc es l) = true := by
          rcases l with _ | ⟨a, _ | ⟨b, l⟩⟩ <;> exact hc
        obtain ⟨hc, h5⟩ := ba hc
        obtain ⟨hc, h4⟩ := ba hc
        obtain ⟨hc, h3⟩ := ba hc
        obtain ⟨h1, h2⟩ := ba hc
        have := of_decide_eq_true h1
        subst this
        obtain ⟨g1, g2, _⟩ := G.gl h2
        obtain ⟨a, fd, ps, j, F, hr, hm', hk', hb⟩ := G.fns f (of_decide_eq_true h3)
        obtain ⟨y, l', rfl⟩ := cutP (of_decide_eq_true h4)
        cases es with
        | nil => unfold chkEs at h5; cases h5
        | cons e0 es0 =>
          have hs := h5
          unfold chkEs at hs
          obtain ⟨s1, s2⟩ := ba hs
          refine vT (wkE (pe_call (E := fun _ _ _ => False) F hr g1 hm' hk' hb .nil (fun _ _ _ _ _ _ _ h => h.elim) (sArgs hE (.cons e0 es0) (y :: l') (by omega) h5) g2 (star_ok s1 l' X.env) (back_any pos (stars_ok X.env s2).1)) fun σ H Q ⟨μ, h, ρ, R, r, p⟩ => ?_) fun _ => rfl
          unfold evE at p
          refine ⟨μ, h, ρ, R, r, Pst.seq p (Gr.refl _ _) fun xs H1 μ1 h1 us g1 R1 r1 p1 => ?_⟩
          rw [List.append_nil]
          exact ⟨μ1, h1, us, R1, r1, p1.ungc R.len.symm g1⟩
    | bi b es =>
      rw [E.bi.sizeOf_spec] at hm
      cases e <;> first | (unfold chkE at hc; cases hc; done) | skip
      rename_i fe l kw pos
      cases fe <;> first | (unfold chkE at hc; cases hc; done) | skip
      rename_i x px
      cases kw with
      | cons _ _ => unfold chkE at hc; cases hc
      | nil =>
        unfold chkE at hc
        have hc : (decide (x = biName b) && glB sc x && decide (l ≠ []) && chkEs L sc es l) = true := by
          rcases l with _ | ⟨a, _ | ⟨b, l⟩⟩ <;> exact hc
        obtain ⟨hc, h5⟩ := ba hc
        obtain ⟨hc, h4⟩ := ba hc
        obtain ⟨h1, h2⟩ := ba hc
        have := of_decide_eq_true h1
        subst this
        obtain ⟨g1, g2, g3⟩ := G.gl h2
        obtain ⟨y, l', rfl⟩ := cutP (of_decide_eq_true h4)
        cases es with
        | nil => unfold chkEs at h5; cases h5
        | cons e0 es0 =>
          have hs := h5
          unfold chkEs at hs
          obtain ⟨s1, s2⟩ := ba hs
          have hA := sArgs hE (.cons e0 es0) (y :: l') (by omega) h5
          have cr := cr_bi (X := X) (EX := NoX) G.calm b
          have bt := boot_of b
          have key : PE X (.Call (.Name (biName b) px) (y :: l') [] pos) (tCB (rBi X.K NoX b) (tEs X.K C (.cons e0 es0))) := by
            rw [fOf_bil] at cr bt
            cases hb : bil b with
            | inl s => rw [hb] at cr bt; exact pe_callB cr g1 (G.blt _ (bi_mem b)) bt hA g3 g2 (star_ok s1 l' X.env) (back_any pos (stars_ok X.env s2).1)
            | inr s => rw [hb] at cr bt; exact pe_callTy cr g1 (G.blt _ (bi_mem b)) bt hA g3 g2 (star_ok s1 l' X.env) (back_any pos (stars_ok X.env s2).1)
          refine vT (wkE key fun σ H Q ⟨μ, h, ρ, R, r, p⟩ => ?_) fun _ => rfl
          unfold evE at p
          refine ⟨μ, h, ρ, R, r, Pst.seq p (Gr.refl _ _) fun xs H1 μ1 h1 us g1 R1 r1 p1 => ?_⟩
          exact ⟨μ1, h1, us, R1, r1, p1.ungc R.len.symm g1⟩
    | isi a t =>
      rw [E.isi.sizeOf_spec] at hm
      cases e <;> first | (unfold chkE at hc; cases hc; done) | skip
      rename_i fe l kw pos
      cases fe <;> first | (unfold chkE at hc; cases hc; done) | skip
      rename_i x px
      rcases l with _ | ⟨e, _ | ⟨y, _ | ⟨_, _⟩⟩⟩
      · unfold chkE at hc; cases hc
      · unfold chkE at hc; cases hc
      · cases y <;> first | (unfold chkE at hc; cases hc; done) | skip
        rename_i y py
        cases kw with
        | cons _ _ => unfold chkE at hc; cases hc
        | nil =>
          unfold chkE at hc
          obtain ⟨hc, h5⟩ := ba hc
          obtain ⟨hc, h4⟩ := ba hc
          obtain ⟨hc, h3⟩ := ba hc
          obtain ⟨h1, h2⟩ := ba hc
          have := of_decide_eq_true h1
          subst this
          obtain ⟨g1, g2, g3⟩ := G.gl h2
          obtain ⟨k1, k2, k3⟩ := G.gl h3
          obtain ⟨tb, tm, tt⟩ := ty_boot (of_decide_eq_true h4)
          have ha := (hE a (by omega) e h5).1
          refine vT (wkE (pe_callB call_isi g1 (G.blt _ (by decide +kernel)) (by decide +kernel) (pa_cons ha (pa_cons (pe_bltn (v := .ty t) k1 (G.blt _ tm) tb rfl k3 k2) pa_nil rfl) (star_ok h5 _ X.env)) g3 g2 (star_ok h5 _ X.env) rfl) fun σ H Q ⟨μ, h, ρ, R, r, p⟩ => ?_) fun _ => rfl
          unfold evE at p
          refine ⟨μ, h, ρ, R, r, Pst.seq p (Gr.refl _ _) fun z H1 μ1 h1 u g1 R1 r1 p1 => ?_⟩
          split at p1
          case h_2 => exact p1.elim
          rename_i w ew
          exact ⟨z, .ty t, _, _, _, rfl, .ty t, tyV_ok R1 r1 ew fun b vs s => s.ty, kit_all w t (tyV_mem ew) tt, (p1.ungc R.len.symm g1).ret R1 (.bl _)⟩
      · cases y <;> cases kw <;> (unfold chkE at hc; cases hc)
    | meth m o es =>
      rw [E.meth.sizeOf_spec] at hm
      cases e <;> first | (unfold chkE at hc; cases hc; done) | skip
      rename_i fe l kw pos
      cases fe <;> first | (unfold chkE at hc; cases hc; done) | skip
      rename_i re x apos
      cases kw with
      | cons _ _ => unfold chkE at hc; cases hc
      | nil =>
        unfold chkE at hc
        have hc : (decide (x = mtName m) && decide (m ≠ .count ∧ m ≠ .index) && (apos.endLine == pos.line) && decide (l.length < 29) && (chkE L sc o re && chkEs L sc es l)) = true := by
          rcases l with _ | ⟨a, _ | ⟨b, l⟩⟩ <;> exact hc
        obtain ⟨hc, h5⟩ := ba hc
        obtain ⟨hc, h4⟩ := ba hc
        obtain ⟨hc, h3⟩ := ba hc
        obtain ⟨h1, h2⟩ := ba hc
        obtain ⟨h5, h6⟩ := ba h5
        have := of_decide_eq_true h1
        subst this
        have hne := of_decide_eq_true h2
        obtain ⟨name, pa, slot, hty, en⟩ := mt_slot m hne
        have en : name = mtName m := by
          rw [en]
          cases m <;> first | rfl | exact absurd rfl hne.1 | exact absurd rfl hne.2
        subst en
        have ho := (hE o (by omega) re h5).1
        have hbase : attributeBase re (mtName m) X.env (eval re X.env) = eval re X.env := base_ok h5 _ _ _
        cases l with
        | nil =>
          refine vT (wkE (pe_bm0 pa slot hty (mt_ok (EX := NoX) m) ho hbase h3) fun σ H Q ⟨μ, h, ρ, R, r, p⟩ => ?_) fun _ => rfl
          unfold evE at p
          refine ⟨μ, h, ρ, R, r, Pst.seq p (Gr.refl _ _) fun z H1 μ1 h1 u g1 R1 r1 p1 => ?_⟩
          split at p1
          case isFalse => exact p1.elim
          rename_i hr
          cases es with
          | cons _ _ => unfold chkEs at h6; cases h6
          | nil =>
            unfold evEs at p1
            exact ⟨rcv_ty R1 r1 hr, μ1, h1, u, [], R1, r1, .nil, Pst.ungc (show Pst X.K μ H NoX (RM X.K) (gcR h.length (mtV m u [] h1)) Q from p1) R.len.symm g1⟩
        | cons y l' =>
          cases es with
          | nil => unfold chkEs at h6; cases h6
          | cons e0 es0 =>
            have hs := h6
            unfold chkEs at hs
            obtain ⟨s1, s2⟩ := ba hs
            refine vT (wkE (pe_bm pa slot hty (mt_ok (EX := NoX) m) ho (sArgs hE (.cons e0 es0) (y :: l') (by omega) h6) hbase (few_ok pos X.env h6 (of_decide_eq_true h4)) h3 (star_ok s1 l' X.env) (back_any pos (stars_ok X.env s2).1)) fun σ H Q ⟨μ, h, ρ, R, r, p⟩ => ?_) fun _ => rfl
            unfold evE at p
            refine ⟨μ, h, ρ, R, r, Pst.seq p (Gr.refl _ _) fun z H1 μ1 h1 u g1 R1 r1 p1 => ?_⟩
            split at p1
            case isFalse => exact p1.elim
            rename_i hr
            refine ⟨rcv_ty R1 r1 hr, μ1, h1, ρ, R1, r.gr g1, Pst.seq p1 g1 fun xs H2 μ2 h2 us g2 R2 r2 p2 => ?_⟩
            exact ⟨μ2, h2, u, us, R2, r1.gr g2, r2, p2.ungc R.len.symm (g1.trans g2)⟩
    | idx a i =>
      rw [E.idx.sizeOf_spec] at hm
      cases e <;> first | (unfold chkE at hc; cases hc; done) | skip
      rename_i x y pos
      unfold chkE at hc
      have hc : (ixB y && (chkE L sc a x && chkE L sc i y)) = true := by
        cases y <;> exact hc
      obtain ⟨h1, h2⟩ := ba hc
      obtain ⟨h2, h3⟩ := ba h2
      refine vT (wkE (pe_ix (ix_ok (EX := NoX)) (hE a (by omega) x h2).1 (hE i (by omega) y h3).1 (plain_ix h3 h1)) fun σ H Q ⟨μ, h, ρ, R, r, p⟩ => ?_) fun _ => rfl
      unfold evE at p
      refine ⟨μ, h, ρ, R, r, Pst.seq p (Gr.refl _ _) fun x H1 μ1 h1 u g1 R1 r1 p1 => ⟨μ1, h1, ρ, R1, r.gr g1, Pst.seq p1 g1 fun y H2 μ2 h2 w g2 R2 r2 p2 => ?_⟩⟩
      exact ⟨μ2, h2, u, w, R2, r1.gr g2, r2, p2.ungc R.len.symm (g1.trans g2)⟩
    | slc a lo hi =>
      rw [E.slc.sizeOf_spec] at hm
      cases e <;> first | (unfold chkE at hc; cases hc; done) | skip
      rename_i x y pos
      cases y <;> first | (unfold chkE at hc; cases hc; done) | skip
      rename_i l u st p2
      cases st with
      | some _ => unfold chkE at hc; cases hc
      | none =>
        unfold chkE at hc
        obtain ⟨h1, h2⟩ := ba hc
        obtain ⟨h2, h3⟩ := ba h2
        refine vT (wkE (pe_slice (sl_ok (EX := NoX)) (hE a (by omega) x h1).1 (sOpt hE lo l (by omega) h2) (sOpt hE hi u (by omega) h3)) fun σ H Q ⟨μ, h, ρ, R, r, p⟩ => ?_) fun _ => rfl
        unfold evE at p
        refine ⟨μ, h, ρ, R, r, Pst.seq p (Gr.refl _ _) fun x H1 μ1 h1 w g1 R1 r1 p1 => ⟨μ1, h1, ρ, R1, r.gr g1, Pst.seq p1 g1 fun l' H2 μ2 h2 l1 g2 R2 r2 p2 => ⟨μ2, h2, ρ, R2, r.gr (g1.trans g2), Pst.seq p2 (g1.trans g2) fun u' H3 μ3 h3 u1 g3 R3 r3 p3 => ?_⟩⟩⟩
        cases r2
        cases r3
        exact ⟨μ3, h3, w, R3, r1.gr (g2.trans g3), p3.ungc R.len.symm ((g1.trans g2).trans g3)⟩
    | comp elt t it c =>
      rw [E.comp.sizeOf_spec] at hm
      cases e <;> first | (unfold chkE at hc; cases hc; done) | skip
      rename_i x gs scope pos
      rcases gs with _ | ⟨⟨tg, iter, ifs, as⟩, _ | ⟨_, _⟩⟩
      · unfold chkE at hc; cases hc
      · have has : as = 0 := by
          by_cases h0 : as = 0
          · exact h0
          · exfalso
            unfold chkE at hc
            split at hc <;> simp_all
        subst has
        exact vT (sComp G (k := k) (by omega) hc fun m h sc X G e he => sE k m h sc X G e he) fun _ => rfl
      · exfalso
        unfold chkE at hc
        split at hc <;> simp_all
end
end MP
/-! MP16: statements. -/
namespace MP
open PySem PySem.Spec PyProof.Rows L2
/-! ### loops by turns -/
def thenW (r : O F) (k : En → MHp → O F) : O F := match r with
  | some (.ok (.nx ρ1) h1) => k ρ1 h1
  | some (.ok (.bk ρ1) h1) => some (.ok (.nx ρ1) h1)
  | r => r
def whN (f : En → MHp → O F) : Nat → En → MHp → O F
  | 0, _, _ => none
  | n + 1, ρ, h => thenW (f ρ h) (whN f n)
theorem whL_fuel (f : En → MHp → O F) (ρ : En) (h : MHp) (r : R F) (e : whL f ρ h = some r) : ∃ n, whN f n ρ h = some r := by
  refine whL.partial_correctness f (fun ρ h r => ∃ n, whN f n ρ h = some r) (fun g ih ρ h r e => ?_) ρ h r e
  cases q : f ρ h with
  | none => rw [q] at e; cases e
  | some o => cases o with
    | ex c h1 => rw [q] at e; exact ⟨1, by show thenW (f ρ h) (whN f 0) = _; rw [q]; exact e⟩
    | ok fl h1 => cases fl with
      | nx ρ1 =>
        rw [q] at e
        obtain ⟨n, hn⟩ := ih ρ1 h1 r e
        exact ⟨n + 1, by show thenW (f ρ h) (whN f n) = _; rw [q]; exact hn⟩
      | bk ρ1 => rw [q] at e; exact ⟨1, by show thenW (f ρ h) (whN f 0) = _; rw [q]; exact e⟩
      | rt v => rw [q] at e; exact ⟨1, by show thenW (f ρ h) (whN f 0) = _; rw [q]; exact e⟩
theorem thenW_bnd {α : Type} (o : O α) (g : α → MHp → O F) (k : En → MHp → O F) : thenW (bnd o g) k = bnd o fun x h => thenW (g x h) k := by
  cases o with
  | none => rfl
  | some q => cases q <;> rfl
theorem forL_then (f : MV → En → MHp → O F) (it : Items) (k i : Nat) (ρ : En) (h : MHp) : forL f it (k + 1) i ρ h = match itemI h i it with
    | none => none
    | some x => thenW (f x ρ h) (forL f it k (i + 1)) := by
  show (match itemI h i it with | none => none | some x => bnd (f x ρ h) fun fl h1 => _) = _
  cases itemI h i it with
  | none => rfl
  | some x =>
    simp only
    cases f x ρ h with
    | none => rfl
    | some o => cases o with
      | ex c h1 => rfl
      | ok fl h1 => cases fl <;> rfl
section
variable {K : PySem.W.Frag} {μ μ1 : List Addr} {H H1 : AH} {h : MHp}
theorem SPst.then {n : Nat} {kill : List Nat} {o : O F} {k : En → MHp → O F} {D : Ends} (p : SPst K μ H NoX (thenW (tidy n kill o) k) D) (hn : n = μ.length) (g : Gr μ μ1 H H1) :
    SPst K μ1 H1 NoX o { D with nx := fun σ' H' => ∃ ν h' ρ', Gr μ ν H H' ∧ RH K ν H' h' ∧ RE K ν H' ρ' σ' ∧ SPst K μ H NoX (k ρ' h') D, ct := fun σ' H' => ∃ ν h' ρ', Gr μ ν H H' ∧ RH K ν H' h' ∧ RE K ν H' ρ' σ' ∧ SPst K μ H NoX (k ρ' h') D, bk := D.nx } := by
  cases o with
  | none => exact p
  | some q => cases q with
    | ex c h => exact fun μ' H' g' R => (show SPst K μ H NoX (some (.ex c h)) D from p) μ' H' (g.trans g') R
    | ok f h => cases f with
      | rt v => exact fun μ' H' z g' R r => (show SPst K μ H NoX (some (.ok (.rt v) h)) D from p) μ' H' z (g.trans g') R r
      | bk ρ => exact fun μ' H' z g' R r => (show SPst K μ H NoX (some (.ok (.nx ρ) h)) D from p) μ' H' z (g.trans g') R r
      | nx ρ =>
        intro μ' H' σ' g' R r
        obtain ⟨ν, g1, R1, r1⟩ := gcE_ok (g.trans g') hn R (r.kill kill)
        exact ⟨ν, _, _, g1, R1, r1, p⟩
end
/-! ### the look -/
def swC (sc scope : Scope) (y : Str) (py pos : Pos) : Bool := decide (sc.names.lookup y = some .local) && (py.line == pos.line) && !(scope.names.any fun (n, k) => n == y && (k == .local || k == .cell))
def noComp : Expr → Bool | .ListComp .. => false | .SetComp .. => false | .DictComp .. => false | _ => true
mutual
def chkS (L : Lk) (sc : Scope) : S → Stmt → Bool
  | .set i e, .Assign [.Name x _] v _ => decide (L.N[i]? = some x) && locB sc x && chkE L sc e v
  | .unp is e, .Assign [.Tuple es k p] v _ => targ L.N sc (.tup is) (.Tuple es k p) && (match v with | .Tuple .. => false | _ => true) && chkE L sc e v
  | .par i j a b, .Assign [.Tuple [.Name x px, .Name y py] _ _] (.Tuple [u, w] _ _) _ => decide (L.N[i]? = some x) && decide (L.N[j]? = some y) && decide (i ≠ j) && decide (sc.names.lookup x = some .local) && decide (sc.names.lookup y = some .local) &&
      (py.line == px.line) && !(([u, w] : List Expr).all (foldedForSure 8)) && !(([u, w] : List Expr).all (constantsAlone 8)) && (chkE L sc a u && chkE L sc b w)
  | .sub o i e, .Assign [.Subscript ob ix _] v _ => ixB ix && (chkE L sc o ob && (chkE L sc i ix && chkE L sc e v))
  | .aug i op e, .AugAssign (.Name x _) o v _ => decide (L.N[i]? = some x) && locB sc x && (match op, o with | .add, .Add => true | .sub, .Sub => true | _, _ => false) && chkE L sc e v
  | .expr e, .Expr v _ => noComp v && chkE L sc e v
  | .ret e, .Return (some v) _ => chkE L sc e v
  | .pass, .Pass _ => true
  | .brk, .Break _ => true
  | .iff c a b, .If t x y _ => chkE L sc c t && (chkSs L sc a x && chkSs L sc b y)
  | .fr t it b _, .For tg iter body [] _ => targ L.N sc t tg && (chkI L sc it iter tg && chkSs L sc b body)
  | .wh c b _, .While t body [] _ => chkE L sc c t && chkSs L sc b body
  | .rse _ (.str _), .Raise _ _ _ => true
  | _, _ => false
def chkSs (L : Lk) (sc : Scope) : Ss → List Stmt → Bool
  | .nil, [] => true
  | .cons s ss, x :: l => chkS L sc s x && chkSs L sc ss l
  | _, _ => false
end
def tS (K : PySem.W.Frag) (C : Ora) (m : S) : TS := fun D σ H => ∃ μ h ρ, RH K μ H h ∧ RE K μ H ρ σ ∧ SPst K μ H NoX (evS C m ρ h) D
def tSs (K : PySem.W.Frag) (C : Ora) (m : Ss) : TS := fun D σ H => ∃ μ h ρ, RH K μ H h ∧ RE K μ H ρ σ ∧ SPst K μ H NoX (evSs C m ρ h) D
theorem wkS {X : Cx} {st : Stmt} {t t' : TS} (h : PS X st t) (w : ∀ D σ H, t' D σ H → t D σ H) : PS X st t' := ⟨fun pins s σ H D I q => h.run pins s σ H D I (w D σ H q)⟩
theorem wkSs {X : Cx} {st : List Stmt} {t t' : TS} (h : PSs X st t) (w : ∀ D σ H, t' D σ H → t D σ H) : PSs X st t' := ⟨fun pins s σ H D I q => h.run pins s σ H D I (w D σ H q)⟩
section
variable {L : Lk} {C : Ora} {sc : Scope} {X : Cx}
theorem notT {b : Bool} (h : (!b) = true) : b = false := by cases b <;> first | rfl | cases h
theorem sw_plain {v : Expr} (h : noComp v = true) (t : Option Expr) (l : Nat) (env : Env) : swapsWith v t l env = pure false := by
  cases v <;> first | rfl | cases h
theorem noComp_of {m : E} {v : Expr} (h : chkE L sc m v = true) : noComp v = true ∨ ∃ x gs scope pos, v = .ListComp x gs scope pos := by
  cases v <;> first | exact .inl rfl | exact .inr ⟨_, _, _, _, rfl⟩ | (exfalso; cases m <;> (unfold chkE at h; cases h))
theorem sw_tuple {v : Expr} (h : noComp v = true ∨ ∃ x gs scope pos, v = .ListComp x gs scope pos) (es : List Expr) (k : Nat) (p : Pos) (l : Nat) (env : Env) : swapsWithSole [.Tuple es k p] v l env = pure false := by
  show swapsWith v (some (.Tuple es k p)) l env = pure false
  rcases h with h | ⟨x, gs, scope, pos, rfl⟩
  · exact sw_plain h _ _ _
  · rfl
theorem sw_sub {v : Expr} (h : noComp v = true ∨ ∃ x gs scope pos, v = .ListComp x gs scope pos) (o i : Expr) (p : Pos) (l : Nat) (env : Env) : swapsWithSole [.Subscript o i p] v l env = pure false := by
  show swapsWith v (some (.Subscript o i p)) l env = pure false
  rcases h with h | ⟨x, gs, scope, pos, rfl⟩
  · exact sw_plain h _ _ _
  · rfl
theorem sPar (G : Gd L sc C X) {x y : Str} {u w : Expr} {px py pt p2 : Pos} {kt k2 : Nat} (hx : sc.names.lookup x = some .local) (hy : sc.names.lookup y = some .local) (hne : x ≠ y) (hl : (py.line == px.line) = true)
    (h1 : ([u, w] : List Expr).all (foldedForSure 8) = false) (h2 : ([u, w] : List Expr).all (constantsAlone 8) = false) {a b : E} (hu : chkE L sc a u = true) (hw : chkE L sc b w = true) :
    swappedStores [.Tuple [.Name x px, .Name y py] kt pt] (.Tuple [u, w] k2 p2) X.env = pure (some [x, y]) := by
  have hb : X.env.blockKind = .function := by unfold Env.blockKind; rw [G.sc_, G.kf]; rfl
  have ix : X.env.kindOf x = some .local := by show X.env.scope.names.lookup x = _; rw [G.sc_]; exact hx
  have iy : X.env.kindOf y = some .local := by show X.env.scope.names.lookup y = _; rw [G.sc_]; exact hy
  have nu : ∀ {m : E} {v : Expr}, chkE L sc m v = true → (match v with | .Starred .. => true | _ => false) = false := fun {m v} h => by
    cases v <;> first | rfl | (exfalso; cases m <;> (unfold chkE at h; cases h))
  have nu1 := nu hu
  have nu2 := nu hw
  have el : py.line = px.line := eq_of_beq hl
  unfold swappedStores
  simp only [hb, h1, h2, List.any_cons, List.any_nil, nu1, nu2, List.filterMap_cons, List.filterMap_nil, ix, iy, Expr.pos, List.head?_cons, Option.map_some, Option.getD_some, el, beq_self_eq_true, Bool.and_self, if_true, List.length_cons, List.length_nil]
  have hd : ([x, y] : List Str).eraseDups = [x, y] := by
    have : (x == y) = false := by simpa using hne
    simp [List.eraseDups_cons, this, Ne.symm hne]
  rw [hd]
  cases u <;> first | (cases nu1; done) | (cases w <;> first | (cases nu2; done) | rfl)
mutual
theorem sS (G : Gd L sc C X) (lo : LocOk X sc) : ∀ (m : S) (st : Stmt), chkS L sc m st = true → PS X st (tS X.K C m)
  | .set i e, st, hc => by
    cases st <;> first | (unfold chkS at hc; cases hc; done) | skip
    rename_i ts v pos
    rcases ts with _ | ⟨tg, _ | ⟨_, _⟩⟩
    · unfold chkS at hc; cases hc
    · cases tg <;> first | (unfold chkS at hc; cases hc; done) | skip
      rename_i x px
      unfold chkS at hc
      obtain ⟨hc, h3⟩ := ba hc
      obtain ⟨h1, h2⟩ := ba hc
      obtain ⟨l1, l2⟩ := lo x h2
      have hN : X.N.Nodup := by rw [G.N_]; exact G.nd
      have hi : X.N[i]? = some x := by rw [G.N_]; exact of_decide_eq_true h1
      have fin : ∀ {D : Ends} {σ : L2.St} {H : AH}, tS X.K C (.set i e) D σ H → tE X.K C e σ H fun x H1 => gName i x σ H1 D.nx := @fun D σ H ⟨μ, h, ρ, R, r, p⟩ => by
        unfold evS at p
        exact ⟨μ, h, ρ, R, r, SPst.seq p (Gr.refl _ _) fun z H1 μ1 h1 u g1 R1 r1 p1 => p1 μ1 H1 _ g1 R1 ((r.gr g1).set r1 i)⟩
      rcases noComp_of h3 with hn | ⟨y, gs, scope, cp, rfl⟩
      · exact wkS (ps_set (i := i) hN hi l1 (sE (sizeOf e + 1) e (by omega) sc X G v h3).1 (sw_plain hn _ _ _) l2) fun D σ H q => fin q
      · cases hs : swC sc scope x px cp with
        | true =>
          unfold swC at hs
          obtain ⟨hs, s3⟩ := ba hs
          obtain ⟨s1, s2⟩ := ba hs
          cases e <;> first | (unfold chkE at h3; cases h3; done) | skip
          rename_i elt t it c
          rcases gs with _ | ⟨⟨tg, iter, ifs, as⟩, _ | ⟨_, _⟩⟩
          · unfold chkE at h3; cases h3
          · have has : as = 0 := by
              by_cases h0 : as = 0
              · exact h0
              · exfalso
                unfold chkE at h3
                split at h3 <;> simp_all
            subst has
            have hk : X.env.scope.kind = .function := by rw [G.sc_]; exact G.kf
            have hy : X.env.scope.names.lookup x = some .local := by rw [G.sc_]; exact of_decide_eq_true s1
            obtain ⟨wi, g, tt, te, hi2, ok, hg, ht, he, hf, imp⟩ := sComp0 (k := sizeOf (E.comp elt t it c)) G (by rw [E.comp.sizeOf_spec]; omega) h3 fun m h sc X G e he => sE (sizeOf m + 1) m (by omega) sc X G e he
            exact wkS (ps_setLc (i := i) G.calm hN hi hy (sw_true hk hy s2 (by simpa using s3)) hi2 ok hg ht he hf) fun D σ H q => imp σ H _ (fin q)
          · exfalso
            unfold chkE at h3
            split at h3 <;> simp_all
        | false =>
          refine wkS (ps_set (i := i) hN hi l1 (sE (sizeOf e + 1) e (by omega) sc X G _ h3).1 ?_ l2) fun D σ H q => fin q
          have hb : X.env.blockKind = .function := by unfold Env.blockKind; rw [G.sc_, G.kf]; rfl
          unfold swapsWith
          simp only [hb, Expr.pos]
          have ek : (X.env.kindOf x == some NameKind.local) = decide (sc.names.lookup x = some .local) := by
            show (X.env.scope.names.lookup x == some NameKind.local) = _
            rw [G.sc_]
            cases sc.names.lookup x with
            | none => rfl
            | some k => cases k <;> rfl
          have hs' := hs
          unfold swC at hs'
          rw [ek]
          show pure _ = pure false
          congr 1
    · cases tg <;> (unfold chkS at hc; cases hc)
  | .unp is e, st, hc => by
    cases st <;> first | (unfold chkS at hc; cases hc; done) | skip
    rename_i ts v pos
    rcases ts with _ | ⟨tg, _ | ⟨_, _⟩⟩
    · unfold chkS at hc; cases hc
    · cases tg <;> first | (unfold chkS at hc; cases hc; done) | skip
      rename_i es k p
      unfold chkS at hc
      obtain ⟨hc, h3⟩ := ba hc
      obtain ⟨h1, h2⟩ := ba hc
      have hst : swappedStores [.Tuple es k p] v X.env = pure none := by
        cases v <;> first | rfl | cases h2
      have h1e : (assignEach [.Tuple es k p] X.env).map (·.2) = [assign (.Tuple es k p) X.env] := rfl
      refine wkS (ps_asg (sE (sizeOf e + 1) e (by omega) sc X G v h3).1 (targ_ok G.N_ G.nd G.calm lo h1) (sw_tuple (noComp_of h3) es k p _ _) hst h1e) fun D σ H ⟨μ, h, ρ, R, r, p⟩ => ?_
      unfold evS at p
      refine ⟨μ, h, ρ, R, r, SPst.seq p (Gr.refl _ _) fun z H1 μ1 h1 u g1 R1 r1 p1 => ?_⟩
      cases eb : bindT (.tup is) u ρ with
      | none => simp only [eb] at p1; exact p1.elim
      | some ρ1 =>
        simp only [eb] at p1
        exact ⟨μ1, h1, ρ, u, ρ1, R1, REx.of (r.gr g1), r1, eb, fun σ' r' _ => p1 μ1 H1 σ' g1 R1 r'⟩
    · cases tg <;> (unfold chkS at hc; cases hc)
  | .par i j a b, st, hc => by
    unfold chkS at hc
    split at hc <;> try (cases hc; done)
    all_goals try (rename_i h9; cases h9; done)
    rename_i i' j' a' b' x px y py kt pt u w k2 p2 pos hm
    cases hm
    obtain ⟨hc, h9⟩ := ba hc
    obtain ⟨h9, h10⟩ := ba h9
    obtain ⟨hc, h8⟩ := ba hc
    obtain ⟨hc, h7⟩ := ba hc
    obtain ⟨hc, h6⟩ := ba hc
    obtain ⟨hc, h5⟩ := ba hc
    obtain ⟨hc, h4⟩ := ba hc
    obtain ⟨hc, h3⟩ := ba hc
    obtain ⟨h1, h2⟩ := ba hc
    have h1 := of_decide_eq_true h1
    have h2 := of_decide_eq_true h2
    have h3 := of_decide_eq_true h3
    have h4 := of_decide_eq_true h4
    have h5 := of_decide_eq_true h5
    have hxy : x ≠ y := fun z => by
      subst z
      obtain ⟨l1, e1⟩ := List.getElem?_eq_some_iff.mp h1
      obtain ⟨l2, e2⟩ := List.getElem?_eq_some_iff.mp h2
      exact h3 ((List.getElem_inj G.nd).mp (e1.trans e2.symm))
    have hA : PA X [u, w] (tCons (tE X.K C a) (tCons (tE X.K C b) tNil)) := pa_cons (sE (sizeOf a + 1) a (by omega) sc X G u h9).1 (pa_cons (sE (sizeOf b + 1) b (by omega) sc X G w h10).1 pa_nil (star_ok h10 [] X.env)) (star_ok h9 [w] X.env)
    refine wkS (ps_par (i := i) (j := j) G.calm (by rw [G.N_]; exact G.nd) (by rw [G.N_]; exact h1) (by rw [G.N_]; exact h2) h3 (by rw [G.sc_]; exact h4) (by rw [G.sc_]; exact h5) hA
      (sPar G h4 h5 hxy h6 (notT h7) (notT h8) h9 h10)) fun D σ H ⟨μ, h, ρ, R, r, p⟩ => ?_
    unfold evS at p
    refine ⟨μ, h, ρ, R, r, SPst.seq p (Gr.refl _ _) fun z H1 μ1 h1 u g1 R1 r1 p1 => ⟨μ1, h1, ρ, R1, r.gr g1, SPst.seq p1 g1 fun y H2 μ2 h2 w g2 R2 r2 p2 => ?_⟩⟩
    exact ⟨z, y, rfl, p2 μ2 H2 _ (g1.trans g2) R2 (((r.gr (g1.trans g2)).set (r1.gr g2) i).set r2 j)⟩
  | .sub o i e, st, hc => by
    cases st <;> first | (unfold chkS at hc; cases hc; done) | skip
    rename_i ts v pos
    rcases ts with _ | ⟨tg, _ | ⟨_, _⟩⟩
    · unfold chkS at hc; cases hc
    · cases tg <;> first | (unfold chkS at hc; cases hc; done) | skip
      rename_i ob ix p
      unfold chkS at hc
      obtain ⟨h0, hc⟩ := ba hc
      obtain ⟨h1, hc⟩ := ba hc
      obtain ⟨h2, h3⟩ := ba hc
      have hst : swappedStores [.Subscript ob ix p] v X.env = pure none := by cases v <;> rfl
      have ha : ∀ v, assign (.Subscript ob ix p) X.env v = (do
          let ov ← holding [v] (eval ob X.env)
          let iv ← holding [v, ov] (eval ix X.env)
          standAt p
          holding [v, ov, iv] (setItem ov iv v)
          release [v, ov, iv] []) := by
        cases ix <;> first | (exact fun _ => rfl) | (cases h0; done)
      refine wkS (ps_asg (sE (sizeOf e + 1) e (by omega) sc X G v h3).1 (pg_sub (sE (sizeOf o + 1) o (by omega) sc X G ob h1).1 (sE (sizeOf i + 1) i (by omega) sc X G ix h2).1 set_ok ha) (sw_sub (noComp_of h3) ob ix p _ _) hst rfl) fun D σ H ⟨μ, h, ρ, R, r, p⟩ => ?_
      unfold evS at p
      refine ⟨μ, h, ρ, R, r, SPst.seq p (Gr.refl _ _) fun z H1 μ1 h1 u g1 R1 r1 p1 => ⟨μ1, h1, ρ, R1, r.gr g1, SPst.seq p1 g1 fun y H2 μ2 h2 w g2 R2 r2 p2 => ⟨μ2, h2, ρ, R2, r.gr (g1.trans g2), SPst.seq p2 (g1.trans g2) fun q H3 μ3 h3 t g3 R3 r3 p3 => ?_⟩⟩⟩
      cases es : subV w t u h3 with
      | none => simp only [es] at p3; exact p3.elim
      | some h4 =>
        simp only [es] at p3
        refine ⟨μ3, h3, w, t, u, h4, R3, r2.gr g3, r3, r1.gr (g2.trans g3), es, fun H' g4 R4 => ?_⟩
        have g := ((g1.trans g2).trans g3).trans g4
        exact p3 μ3 H' σ g R4 (r.gr g)
    · cases tg <;> (unfold chkS at hc; cases hc)
  | .aug i op e, st, hc => by
    cases st <;> first | (unfold chkS at hc; cases hc; done) | skip
    rename_i tg o v pos
    cases tg <;> first | (unfold chkS at hc; cases hc; done) | skip
    rename_i x px
    unfold chkS at hc
    obtain ⟨hc, h4⟩ := ba hc
    obtain ⟨hc, h3⟩ := ba hc
    obtain ⟨h1, h2⟩ := ba hc
    obtain ⟨l1, l2⟩ := lo x h2
    have hN : X.N.Nodup := by rw [G.N_]; exact G.nd
    have hi : X.N[i]? = some x := by rw [G.N_]; exact of_decide_eq_true h1
    have hP := (sE (sizeOf e + 1) e (by omega) sc X G v h4).1
    split at h3
    · refine wkS (ps_aug (i := i) hN hi l1 hP ip_add l2) fun D σ H ⟨μ, h, ρ, R, r, p⟩ => ?_
      unfold evS at p
      split at p
      · rename_i a ea
        obtain ⟨z, ez, rz⟩ := r.at_ i _ ea
        refine ⟨z, ez, μ, h, ρ, R, r, SPst.seq p (Gr.refl _ _) fun y H1 μ1 h1 u g1 R1 r1 p1 => ?_⟩
        cases rz
        cases r1 with
        | int b => exact ⟨a, b, rfl, rfl, p1 μ1 H1 _ g1 R1 ((r.gr g1).set (.int _) i)⟩
        | _ => exact p1.elim
      · exact p.elim
    · refine wkS (ps_aug (i := i) hN hi l1 hP ip_sub l2) fun D σ H ⟨μ, h, ρ, R, r, p⟩ => ?_
      unfold evS at p
      split at p
      · rename_i a ea
        obtain ⟨z, ez, rz⟩ := r.at_ i _ ea
        refine ⟨z, ez, μ, h, ρ, R, r, SPst.seq p (Gr.refl _ _) fun y H1 μ1 h1 u g1 R1 r1 p1 => ?_⟩
        cases rz
        cases r1 with
        | int b => exact ⟨a, b, rfl, rfl, p1 μ1 H1 _ g1 R1 ((r.gr g1).set (.int _) i)⟩
        | _ => exact p1.elim
      · exact p.elim
    · cases h3
  | .expr e, st, hc => by
    cases st <;> first | (unfold chkS at hc; cases hc; done) | skip
    rename_i v pos
    unfold chkS at hc
    obtain ⟨h1, h2⟩ := ba hc
    refine wkS (ps_expr (sE (sizeOf e + 1) e (by omega) sc X G v h2).1 (sw_plain h1 _ _ _)) fun D σ H ⟨μ, h, ρ, R, r, p⟩ => ?_
    unfold evS at p
    refine ⟨μ, h, ρ, R, r, SPst.seq p (Gr.refl _ _) fun z H1 μ1 h1 u g1 R1 r1 p1 => ?_⟩
    obtain ⟨ν, g2, R2, _⟩ := gc_ok (v := .non) (x := .non) g1 R.len.symm R1 .non
    exact p1 ν H1 σ g2 R2 (r.gr g2)
  | .ret e, st, hc => by
    cases st <;> first | (unfold chkS at hc; cases hc; done) | skip
    rename_i v pos
    cases v with
    | none => unfold chkS at hc; cases hc
    | some v =>
      unfold chkS at hc
      refine wkS (ps_ret (sE (sizeOf e + 1) e (by omega) sc X G v hc).1) fun D σ H ⟨μ, h, ρ, R, r, p⟩ => ?_
      unfold evS at p
      exact ⟨μ, h, ρ, R, r, SPst.seq p (Gr.refl _ _) fun z H1 μ1 h1 u g1 R1 r1 p1 => p1 μ1 H1 z g1 R1 r1⟩
  | .pass, st, hc => by
    cases st <;> first | (unfold chkS at hc; cases hc; done) | skip
    exact wkS ps_pass fun D σ H ⟨μ, h, ρ, R, r, p⟩ => by unfold evS at p; exact p μ H σ (Gr.refl _ _) R r
  | .brk, st, hc => by
    cases st <;> first | (unfold chkS at hc; cases hc; done) | skip
    exact wkS ps_break fun D σ H ⟨μ, h, ρ, R, r, p⟩ => by unfold evS at p; exact p μ H σ (Gr.refl _ _) R r
  | .iff c a b, st, hc => by
    cases st <;> first | (unfold chkS at hc; cases hc; done) | skip
    rename_i t x y pos
    unfold chkS at hc
    obtain ⟨h1, hc⟩ := ba hc
    obtain ⟨h2, h3⟩ := ba hc
    refine wkS (ps_if (sE (sizeOf c + 1) c (by omega) sc X G t h1).2 (sSs G lo a x h2) (sSs G lo b y h3)) fun D σ H ⟨μ, h, ρ, R, r, p⟩ => ?_
    unfold evS at p
    have p' : SPst X.K μ H NoX (bnd (bnd (evE C ρ c h) asB) fun t h2 => if t = true then evSs C a ρ h2 else evSs C b ρ h2) D := by rw [bnd_assoc]; exact p
    refine ⟨μ, h, ρ, R, r, SPst.seq p' (Gr.refl _ _) fun b' H1 μ1 h1 u g1 R1 r1 p1 => ?_⟩
    cases r1
    cases b' with
    | true => exact ⟨μ1, h1, ρ, R1, r.gr g1, p1.gr g1⟩
    | false => exact ⟨μ1, h1, ρ, R1, r.gr g1, p1.gr g1⟩
  | .fr t it b kill, st, hc => by
    cases st <;> first | (unfold chkS at hc; cases hc; done) | skip
    rename_i tg iter body els pos
    cases els with
    | cons _ _ => unfold chkS at hc; cases hc
    | nil =>
      unfold chkS at hc
      obtain ⟨h1, hc⟩ := ba hc
      obtain ⟨h2, h3⟩ := ba hc
      obtain ⟨hi, hf⟩ := sI (k := sizeOf it + 1) G (fun m hm e he => sE _ m hm sc X G e he) it iter tg (by omega) h2
      refine wkS (ps_for G.hp G.calm hi (targ_ok G.N_ G.nd G.calm lo h1) (sSs G lo b body h3) (hf X.env)) fun D σ H ⟨μ, h, ρ, R, r, p⟩ => ?_
      unfold evS at p
      refine ⟨μ, h, ρ, R, r, SPst.seq p (Gr.refl _ _) fun J H1 μ1 h1 its g1 R1 rJ p1 => ?_⟩
      have p1 := p1.gr g1
      generalize hf : (fun x ρ h => match bindT t x ρ with | none => none | some ρ1 => tidy h1.length kill (evSs C b ρ1 h) : MV → En → MHp → O F) = f at p1
      refine ⟨fun i m σ' H' => ∃ μc hc ρc, Gr μ1 μc H1 H' ∧ RH X.K μc H' hc ∧ RE X.K μc H' ρc σ' ∧ SPst X.K μ1 H1 NoX (forL f its m i ρc hc) D, ⟨countI its, μ1, h1, ρ, Gr.refl _ _, R1, r.gr g1, p1⟩, ?_⟩
      rintro i m σ' H' ⟨μc, hc, ρc, gc1, Rc, rc, pc⟩
      cases m with
      | zero =>
        left
        unfold forL at pc
        split at pc
        case isFalse => exact pc.elim
        rename_i hl
        exact ⟨(rJ μc H' hc gc1 Rc i).2 hl, pc μc H' σ' gc1 Rc rc⟩
      | succ m =>
        right
        rw [forL_then] at pc
        cases ei : itemI hc i its with
        | none => simp only [ei] at pc; exact pc.elim
        | some u =>
          simp only [ei] at pc
          obtain ⟨hgo, hy⟩ := (rJ μc H' hc gc1 Rc i).1 u ei
          refine ⟨hgo, fun σ2 H2 => ∃ ν h' ρ', Gr μ1 ν H1 H2 ∧ RH X.K ν H2 h' ∧ RE X.K ν H2 ρ' σ2 ∧ SPst X.K μ1 H1 NoX (forL f its m (i + 1) ρ' h') D, fun σ2 H2 w => ⟨m, Nat.lt_succ_self _, w⟩, fun x H2 yx => ?_⟩
          obtain ⟨g2, R2, rx⟩ := hy x H2 yx
          rw [← hf] at pc
          simp only at pc
          cases eb : bindT t u ρc with
          | none => simp only [eb] at pc; exact pc.elim
          | some ρ1 =>
            simp only [eb] at pc
            refine ⟨μc, hc, ρc, u, ρ1, R2, REx.of (rc.gr g2), rx, eb, fun σ2 r2 _ => ⟨μc, hc, ρ1, R2, r2, ?_⟩⟩
            have q := SPst.then pc R1.len.symm (gc1.trans g2)
            rw [hf] at q
            exact q
  | .wh c b kill, st, hc => by
    cases st <;> first | (unfold chkS at hc; cases hc; done) | skip
    rename_i t body els pos
    cases els with
    | cons _ _ => unfold chkS at hc; cases hc
    | nil =>
      unfold chkS at hc
      obtain ⟨h1, h2⟩ := ba hc
      refine wkS (ps_while G.hp (sE (sizeOf c + 1) c (by omega) sc X G t h1).2 (sSs G lo b body h2)) fun D σ H ⟨μ, h, ρ, R, r, p⟩ => ?_
      unfold evS at p
      generalize hf : (fun ρ' h' => bnd (evE C ρ' c h') fun v h1 => bnd (asB v h1) fun t h2 => if t = true then tidy h.length kill (evSs C b ρ' h2) else MP.ret (.bk ρ') h2 : En → MHp → O F) = f at p
      have p0 : ∃ n, SPst X.K μ H NoX (whN f n ρ h) D := by
        cases q : whL f ρ h with
        | none => rw [q] at p; exact p.elim
        | some r =>
          obtain ⟨n, hn⟩ := whL_fuel f ρ h r q
          exact ⟨n, by rw [hn, ← q]; exact p⟩
      obtain ⟨n, p0⟩ := p0
      refine ⟨fun m σ' H' => ∃ μc hc ρc, Gr μ μc H H' ∧ RH X.K μc H' hc ∧ RE X.K μc H' ρc σ' ∧ SPst X.K μ H NoX (whN f m ρc hc) D, ⟨n, μ, h, ρ, Gr.refl _ _, R, r, p0⟩, ?_⟩
      rintro m σ' H' ⟨μc, hc, ρc, gc1, Rc, rc, pc⟩
      cases m with
      | zero => exact pc.elim
      | succ m =>
        have pc : SPst X.K μ H NoX (thenW (f ρc hc) (whN f m)) D := pc
        rw [← hf] at pc
        simp only at pc
        rw [← bnd_assoc, thenW_bnd] at pc
        refine ⟨μc, hc, ρc, Rc, rc, SPst.seq pc gc1 fun b' H1 μ1 h1 u g1 R1 r1 p1 => ?_⟩
        cases r1
        have g := gc1.trans g1
        cases b' with
        | true =>
          refine ⟨fun σ2 H2 => ∃ ν h' ρ', Gr μ ν H H2 ∧ RH X.K ν H2 h' ∧ RE X.K ν H2 ρ' σ2 ∧ SPst X.K μ H NoX (whN f m ρ' h') D, fun σ2 H2 w => ⟨m, Nat.lt_succ_self _, w⟩, μ1, h1, ρc, R1, rc.gr g1, ?_⟩
          have q := SPst.then (show SPst X.K μ H NoX (thenW (tidy h.length kill (evSs C b ρc h1)) _) D from p1) R.len.symm g
          rw [hf] at q
          exact q
        | false => exact (show SPst X.K μ H NoX (thenW (MP.ret (.bk ρc) h1) _) D from p1) μ1 H1 σ' g R1 (rc.gr g1)
  | .rse c e, st, hc => by
    cases e <;> first | (cases st <;> (unfold chkS at hc; cases hc); done) | skip
    refine wkS ps_never fun D σ H ⟨μ, h, ρ, R, r, p⟩ => ?_
    unfold evS at p
    unfold evE at p
    exact p μ H (Gr.refl _ _) R
theorem sSs (G : Gd L sc C X) (lo : LocOk X sc) : ∀ (m : Ss) (l : List Stmt), chkSs L sc m l = true → PSs X l (tSs X.K C m)
  | .nil, [], _ => wkSs pss_nil fun D σ H ⟨μ, h, ρ, R, r, p⟩ => by unfold evSs at p; exact p μ H σ (Gr.refl _ _) R r
  | .cons s ss, x :: l, hc => by
    unfold chkSs at hc
    obtain ⟨h1, h2⟩ := ba hc
    refine wkSs (pss_cons (sS G lo s x h1) (sSs G lo ss l h2)) fun D σ H ⟨μ, h, ρ, R, r, p⟩ => ?_
    unfold evSs at p
    refine ⟨μ, h, ρ, R, r, ?_⟩
    cases q : evS C s ρ h with
    | none => rw [q] at p; exact p
    | some o =>
      rw [q] at p
      cases o with
      | ex c h1 => exact p
      | ok f h1 => cases f with
        | rt v => exact p
        | bk ρ1 => exact p
        | nx ρ1 => exact fun μ' H' σ' g R' r' => ⟨μ', h1, ρ1, R', r', SPst.gr g p⟩
  | .nil, _ :: _, h => by unfold chkSs at h; cases h
  | .cons _ _, [], h => by unfold chkSs at h; cases h
end
end
end MP
/-! MP17: defs, and the whole row. -/
namespace MP
open PySem PySem.Spec PyProof.Rows L2
/-! ### parameters -/
def plainArgs (a : Arguments) (ps : List Str) : Bool :=
  isNil a.posonlyargs && isNone a.vararg && isNil a.kwonlyargs && isNil a.kw_defaults && isNone a.kwarg && isNil a.defaults && decide (a.args.map (·.arg) = ps)
where isNil {α : Type} : List α → Bool | [] => true | _ => false
theorem lk_zip : ∀ (ps : List Str) (us : List Value), us.length = ps.length → ∀ n ∈ ps, ((ps.zip us).lookup n).isSome = true
  | [], _, _, n, h => by simp at h
  | p :: ps, [], h, _, _ => by simp at h
  | p :: ps, u :: us, h, n, hn => by
    rw [List.zip_cons_cons, List.lookup_cons]
    cases q : n == p with
    | true => rfl
    | false =>
      refine lk_zip ps us (by simpa using h) n ?_
      rcases List.mem_cons.mp hn with z | z
      · subst z; simp at q
      · exact z
theorem zip_back : ∀ (ps : List Str) (us : List Value), us.length = ps.length → ps.Nodup → ∀ m : List (Str × Value), (∀ x ∈ ps, m.lookup x = (ps.zip us).lookup x) → (ps.filterMap fun n => (m.lookup n).map (n, ·)) = ps.zip us
  | [], _, _, _, _, _ => rfl
  | p :: ps, [], h, _, _, _ => by simp at h
  | p :: ps, u :: us, h, hn, m, hm => by
    have e := hm p List.mem_cons_self
    rw [List.zip_cons_cons, List.lookup_cons] at e
    simp only [beq_self_eq_true] at e
    rw [List.filterMap_cons, e, List.zip_cons_cons]
    simp only [Option.map_some]
    rw [zip_back ps us (by simpa using h) (List.nodup_cons.mp hn).2 m fun x hx => ?_]
    rw [hm x (List.mem_cons_of_mem _ hx), List.zip_cons_cons, List.lookup_cons]
    have : (x == p) = false := beq_eq_false_iff_ne.mpr fun z => (List.nodup_cons.mp hn).1 (z ▸ hx)
    rw [this]
theorem bind_plain1 {x qual : Str} {body : List Stmt} {scope : Scope} (a2 : List Arg) (hnd : (a2.map (·.arg)).Nodup) (kV doc pm : Value) (an : Option Addr) (cdv ct : Value) (us : List Value) (hl : us.length = a2.length) :
    bindArgs (PySem.W.fnOf x qual { posonlyargs := [], args := a2, vararg := none, kwonlyargs := [], kw_defaults := [], kwarg := none, defaults := [] } body scope .none kV doc pm an cdv ct) ⟨us, []⟩ = pure ((a2.map (·.arg)).zip us) := by
  have hm : ((a2.map (·.arg)).filter fun n => (((a2.map (·.arg)).zip us).lookup n).isNone) = [] := by
    rw [List.filter_eq_nil_iff]
    intro n hn h
    have := lk_zip (a2.map (·.arg)) us (by simpa using hl) n hn
    rw [Option.isSome_iff_ne_none] at this
    rw [Option.isNone_iff_eq_none] at h
    exact this h
  have hs : (seqItems? Value.none) = pure none := rfl
  have hz := zip_back (a2.map (·.arg)) us (by simpa using hl) hnd _ fun x hx => rfl
  have ht : (a2.map (·.arg)).take a2.length = a2.map (·.arg) := List.take_of_length_le (by simp)
  unfold bindArgs
  simp only [PySem.W.fnOf, hs, List.map_nil, List.nil_append, List.append_nil, List.forIn_nil, pure_bind, bind_pure, Option.getD_none, List.length_nil, Nat.zero_sub, List.drop_nil, List.length_map, hl, Nat.sub_zero, Option.isNone_none, ht, hm, hz, List.zip_nil_right]
  simp
theorem bind_plain {x qual : Str} {body : List Stmt} {scope : Scope} {ps : List Str} (a : Arguments) (h : plainArgs a ps = true) (hnd : ps.Nodup) (kV doc pm : Value) (an : Option Addr) (cdv ct : Value) (us : List Value) (hl : us.length = ps.length) :
    bindArgs (PySem.W.fnOf x qual a body scope .none kV doc pm an cdv ct) ⟨us, []⟩ = pure (ps.zip us) := by
  obtain ⟨a1, a2, a3, a4, a5, a6, a7⟩ := a
  unfold plainArgs at h
  obtain ⟨h, h7⟩ := ba h
  obtain ⟨h, h6⟩ := ba h
  obtain ⟨h, h5⟩ := ba h
  obtain ⟨h, h4⟩ := ba h
  obtain ⟨h, h3⟩ := ba h
  obtain ⟨h1, h2⟩ := ba h
  cases a1 <;> first | (cases h1; done) | skip
  cases a3 <;> first | (cases h2; done) | skip
  cases a4 <;> first | (cases h3; done) | skip
  cases a5 <;> first | (cases h4; done) | skip
  cases a6 <;> first | (cases h5; done) | skip
  cases a7 <;> first | (cases h6; done) | skip
  have e := of_decide_eq_true h7
  simp only at e
  subst e
  exact bind_plain1 a2 hnd kV doc pm an cdv ct us (by simpa using hl)
/-! ### the row's defs -/
structure Df where
  name : String
  fd : Fd
  N : List String
  i : Nat
def topAt (P : Program) (i : Nat) : Stmt := P.main.body.getD i (.Pass ⟨0, 0, 0, 0⟩)
def lkOf (cs : List (String × List Nat)) (dn : List String) (d : Df) : Lk := ⟨d.N.map Str.ofString, dn, cs⟩
def scopeB (N ps : List Str) (sc : Scope) : Bool :=
  decide (sc.kind = .function) && (sc.isCoroutine == false) && (sc.isGenerator == false) && decide N.Nodup && decide (N.take ps.length = ps) &&
    (ps.all fun x => locB sc x) && (sc.names.all fun y => decide (y.2 ≠ .free))
theorem scopeB_ok {N ps : List Str} {sc : Scope} (h : scopeB N ps sc = true) : FnScope N ps sc := by
  unfold scopeB at h
  obtain ⟨h, h7⟩ := ba h
  obtain ⟨h, h6⟩ := ba h
  obtain ⟨h, h5⟩ := ba h
  obtain ⟨h, h4⟩ := ba h
  obtain ⟨h, h3⟩ := ba h
  obtain ⟨h1, h2⟩ := ba h
  refine ⟨of_decide_eq_true h1, by simpa using h2, by simpa using h3, of_decide_eq_true h4, of_decide_eq_true h5, fun x hx => ?_, fun y hy => of_decide_eq_true (List.all_eq_true.mp h7 y hy)⟩
  have q := List.all_eq_true.mp h6 x hx
  unfold locB at q
  split at q
  · rename_i e; exact .inl e
  · rename_i e; exact .inr e
  · cases q
def chkD (P : Program) (cs : List (String × List Nat)) (dn : List String) (d : Df) : Bool :=
  let st := topAt P d.i
  let N := d.N.map Str.ofString
  decide (d.fd.slots = N.length) && decide (d.fd.n ≤ N.length) && scopeB N (N.take d.fd.n) (defScope st) && plainArgs (defArgs st) (N.take d.fd.n) && chkSs (lkOf cs dn d) (defScope st) d.fd.body (defBody st)
def chkDs (P : Program) (cs : List (String × List Nat)) : List Df → Bool
  | [] => true
  | d :: ds => chkD P cs (ds.map (·.name)) d && decide (d.name ∉ ds.map (·.name)) && chkDs P cs ds
def fsOf (ds : List Df) : List (String × Fd) := ds.map fun d => (d.name, d.fd)
abbrev FnP (P : Program) (K : PySem.W.Frag) (d : Df) (f : Addr) (fd : FuncData) : Prop := FunD K (Str.ofString d.name) (Str.ofString d.name) (defArgs (topAt P d.i)) (defBody (topAt P d.i)) (defScope (topAt P d.i)) [] [] f fd
section
variable {P : Program} {w : World} {K : PySem.W.Frag} {mg : Str → Option Value} {base : Heap} {cs : List (String × List Nat)}
/-- what is asked of the module's names -/
structure Fx (P : Program) (K : PySem.W.Frag) (mg : Str → Option Value) (cs : List (String × List Nat)) (ds : List Df) : Prop where
  fn : ∀ d ∈ ds, ∃ f fd, FnP P K d f fd ∧ mg (Str.ofString d.name) = some (.ref f)
  blt : ∀ x ∈ bltNames, mg x = none
  glb : ∀ x s, (x, s) ∈ cs → ∃ t, mg (Str.ofString x) = some (.str (ofS s) t)
theorem env0_start {μ : List Addr} {H : AH} {us : List MV} {vs : List V} {fd : Fd} {N : List Str} (r : RMs K μ H us vs) (hl : us.length = fd.n) (hs : fd.slots = N.length) (hn : fd.n ≤ N.length) : RE K μ H (env0 fd us) (L2.start N vs) := by
  have hlv := r.length
  refine ⟨by unfold env0 L2.start; simp; omega, fun i v e => ?_⟩
  unfold env0 at e
  unfold L2.start
  by_cases hi : i < us.length
  · rw [List.getElem?_append_left (by simpa using hi), List.getElem?_map] at e
    cases q : us[i]? with
    | none => rw [q] at e; cases e
    | some u =>
      rw [q] at e
      cases (show some (some u) = some (some v) from e)
      obtain ⟨x, ex, rx⟩ := r.get q
      refine ⟨x, ?_, rx⟩
      rw [List.getElem?_append_left (by simp; omega), List.getElem?_map, ex]
      rfl
  · rw [List.getElem?_append_right (by simp; omega)] at e
    have := List.mem_of_getElem? e
    simp at this
theorem room_units {k : Nat} {A : Around} (r : Room k A) : A.units + 65 < cLine := by have := r.un; omega
theorem rowFns : ∀ (ds : List Df), chkDs P cs ds = true → Fx P K mg cs ds → ∀ d ∈ ds, ∃ (a : Addr) (fd : FuncData), FnOk P w K mg base CX0 ds.length a fd ((d.N.map Str.ofString).take d.fd.n) (spOf K (callT (fsOf ds)) d.name) ∧ mg (Str.ofString d.name) = some (.ref a) ∧ PySem.W.keepIn K (.ref a) = true ∧ Binds K fd ((d.N.map Str.ofString).take d.fd.n) [] ∧ FnP P K d a fd
  | [], _, _, d, hd => absurd hd (by simp)
  | d0 :: ds, hc, fx, d, hd => by
    unfold chkDs at hc
    obtain ⟨hc, h3⟩ := ba hc
    obtain ⟨h1, h2⟩ := ba hc
    have fx2 : Fx P K mg cs ds := ⟨fun d hd => fx.fn d (List.mem_cons_of_mem _ hd), fx.blt, fx.glb⟩
    have ih := rowFns ds h3 fx2
    have hn0 : d0.name ∉ ds.map (·.name) := of_decide_eq_true h2
    rcases List.mem_cons.mp hd with e | hd2
    · subst e
      obtain ⟨f, fdt, F, hm⟩ := fx.fn d List.mem_cons_self
      unfold chkD at h1
      simp only at h1
      obtain ⟨h1, c5⟩ := ba h1
      obtain ⟨h1, c4⟩ := ba h1
      obtain ⟨h1, c3⟩ := ba h1
      obtain ⟨c1, c2⟩ := ba h1
      have c1 := of_decide_eq_true c1
      have c2 := of_decide_eq_true c2
      have S := scopeB_ok c3
      have nd4 : ((d.N.map Str.ofString).take d.fd.n).Nodup := S.nd.sublist (List.take_sublist _ _)
      have hps : ((d.N.map Str.ofString).take d.fd.n).length = d.fd.n := by rw [List.length_take]; omega
      have hcall : ∀ us h, callT (fsOf (d :: ds)) d.name us h = runF (callT (fsOf ds)) d.fd us h := fun us h => by
        show (if d.name = d.name then _ else _) = _
        rw [if_pos rfl]; rfl
      have hB : Binds K fdt ((d.N.map Str.ofString).take d.fd.n) [] := F.bindsN fun kV doc pm an cdv ct us hl => bind_plain _ c4 nd4 kV doc pm an cdv ct us hl
      refine ⟨f, fdt, F.ok S (fun vs H Q E hsp => ?_) (fun cdv A outer s H vs Q E hr hsp => ?_), hm, F.kp, hB, F⟩
      · obtain ⟨μ, h, us, R, r, p⟩ := hsp
        rw [hcall] at p
        unfold runF at p
        by_cases hl : us.length = d.fd.n
        · rw [hps, ← r.length, hl]
        · rw [if_neg hl] at p; exact p.elim
      · obtain ⟨μ, h, us, R, r, p⟩ := hsp
        rw [hcall] at p
        unfold runF at p
        by_cases hl : us.length = d.fd.n
        · rw [if_pos hl] at p
          have G : Gd (lkOf cs (ds.map (·.name)) d) (defScope (topAt P d.i)) (callT (fsOf ds)) (cxOf CX0 P w K mg base (d.N.map Str.ofString) (Str.ofString d.name) (defScope (topAt P d.i)) f cdv A outer s H E).nox := by
            refine ⟨rfl, S.nd, rfl, S.kind, rfl, room_units hr, PassesOwn.never, fx.blt, fx.glb, fun g hg => ?_⟩
            obtain ⟨d', hd', rfl⟩ := List.mem_map.mp hg
            obtain ⟨a, fd', F', m', k', b', _⟩ := ih d' hd'
            exact ⟨a, fd', _, ds.length, F', hr, m', k', b'⟩
          have lo : LocOk (cxOf CX0 P w K mg base (d.N.map Str.ofString) (Str.ofString d.name) (defScope (topAt P d.i)) f cdv A outer s H E).nox (defScope (topAt P d.i)) := fun x hx => by
            unfold locB at hx
            split at hx
            · rename_i e; exact ⟨.inl e, .inl rfl⟩
            · rename_i e; exact ⟨.inr e, .inl rfl⟩
            · cases hx
          refine ⟨_, PSs.nox (sSs G lo d.fd.body _ c5), μ, h, env0 d.fd us, R, env0_start r hl c1 c2, ?_⟩
          show SPst K μ H NoX (evSs (callT (fsOf ds)) d.fd.body (env0 d.fd us) h) _
          cases q : evSs (callT (fsOf ds)) d.fd.body (env0 d.fd us) h with
          | none => rw [q] at p; exact p
          | some o =>
            rw [q] at p
            cases o with
            | ex c h1 => exact p
            | ok fl h1 => cases fl with
              | nx ρ =>
                intro μ' H' σ' g R' r'
                obtain ⟨ν, g1, R1, r1⟩ := gc_ok (v := .non) (x := .non) g R.len.symm R' .non
                exact p ν H' .non g1 R1 r1
              | rt v =>
                intro μ' H' z g R' r'
                obtain ⟨ν, g1, R1, r1⟩ := gc_ok g R.len.symm R' r'
                exact p ν H' z g1 R1 r1
              | bk ρ => exact p.elim
        · rw [if_neg hl] at p; exact p.elim
    · obtain ⟨a, fd', F', m', k', b', F0⟩ := ih d hd2
      refine ⟨a, fd', (F'.mono (Nat.le_succ _)).imp fun vs H Q E ⟨μ, h, us, R, r, p⟩ => ⟨μ, h, us, R, r, ?_⟩, m', k', b', F0⟩
      have hne : d.name ≠ d0.name := fun z => hn0 (by rw [← z]; exact List.mem_map.mpr ⟨d, hd2, rfl⟩)
      have e : callT (fsOf (d0 :: ds)) d.name us h = callT (fsOf ds) d.name us h := by
        show (if d.name = d0.name then _ else _) = _
        rw [if_neg hne]; rfl
      rw [← e]; exact p
end
/-! ### the facts of a head -/
def dfD (P : Program) (d : Df) : He.DefD := ⟨(Str.ofString d.name, none), Str.ofString d.name, Str.ofString d.name, defArgs (topAt P d.i), defBody (topAt P d.i), defScope (topAt P d.i), [], []⟩
def fnD (P : Program) (ds : List Df) : List He.DefD := ds.map (dfD P)
def faD (cs : List (String × List Nat)) (ds : List Df) : List He.Fa := ds.map (fun d => He.Fa.glo (Str.ofString d.name)) ++ (bltNames.map He.Fa.free ++ cs.map fun c => He.Fa.str (Str.ofString c.1) (ofS c.2))
theorem fx_of {P : Program} {K : PySem.W.Frag} {h : Heap} {mg : Str → Option Value} {cs : List (String × List Nat)} {ds : List Df} (X : K.In h) (G : h.Ns mainGlobals mg) (c : He.SaysD (faD cs ds) (fnD P ds) K) : Fx P K mg cs ds := by
  refine ⟨fun d hd => ?_, fun x hx => ?_, fun x s hs => ?_⟩
  · obtain ⟨j, hj, ej⟩ := List.mem_iff_getElem.mp hd
    have e1 : (fnD P ds)[j]? = some (dfD P d) := by
      unfold fnD
      rw [List.getElem?_map, List.getElem?_eq_getElem hj, ej]; rfl
    have e2 : (faD cs ds)[j]? = some (He.Fa.glo (Str.ofString d.name)) := by
      unfold faD
      rw [List.getElem?_append_left (by simpa using hj), List.getElem?_map, List.getElem?_eq_getElem hj, ej]; rfl
    obtain ⟨fd, F⟩ := c.def_ j e1
    exact ⟨_, fd, F, He.glo_ok X G (c.fact j e2)⟩
  · have hm : He.Fa.free x ∈ faD cs ds := List.mem_append_right _ (List.mem_append_left _ (List.mem_map.mpr ⟨x, hx, rfl⟩))
    obtain ⟨j, hj, ej⟩ := List.mem_iff_getElem.mp hm
    exact He.free_ok X G (c.fact j (by rw [List.getElem?_eq_getElem hj, ej]))
  · have hm : He.Fa.str (Str.ofString x) (ofS s) ∈ faD cs ds := List.mem_append_right _ (List.mem_append_right _ (List.mem_map.mpr ⟨(x, s), hs, rfl⟩))
    obtain ⟨j, hj, ej⟩ := List.mem_iff_getElem.mp hm
    exact He.str_ok X G (c.fact j (by rw [List.getElem?_eq_getElem hj, ej]))
/-! ### the script -/
theorem script_SqF {K : PySem.W.Frag} {H : AH} {a : Addr} {vs : List V} (ho : Only H) (h : SqL K H a vs) : SqF K H a vs := by
  refine ⟨h, fun H' k => ?_⟩
  rcases h with (h | ⟨o, h⟩) | h
  · rcases ho a with e | ⟨o, xs, e⟩ <;> (rw [e] at h; cases h)
  · exact .inl (.inr ⟨o, k a _ h fun z => z⟩)
  · exact .inr h
/-- THE END: what the row's statement wants, from my own reckoning -/
theorem row_end {l : PySem.W.OpenLaw} {cs : List (String × List Nat)} {d : Df} {ds : List Df} {q : Program} {dr : DefRec} {loose : List Str} {XP : (Str → Option Value) → Heap → Prop}
    (hn : l.most = some 63) (hdf : dr.params.defaults = []) (hr : Room (ds.length + 1) callerA) (hd : d.name = "law") (h1 : d.fd.n = 1) (hN : d.N.take 1 = ["script"]) (hnm : dr.name = Str.ofString "law")
    (hc : chkDs l.prog cs (d :: ds) = true)
    (hlaw : ∀ ns : List Int, ns.length ≤ 63 → ∃ h', callT (fsOf (d :: ds)) "law" [.rol (ns.map .int)] [] = some (.ok (.bl true) h')) :
    PySem.W.WalkO q loose XP (fun _ h => ∃ K : PySem.W.Frag, K.In h ∧ He.SaysD (faD cs (d :: ds)) (fnD l.prog (d :: ds)) K) l.row.toRowW dr [] (fun f vs => PySem.call f vs) := by
  refine walk_ofE (l := l) (n := 63) (k := ds.length + 1) (x := Str.ofString "script") (CX := CX0) hn (by decide) hdf hr ?_ (fun _ _ _ _ z => z)
  intro w mg fa h Y G hmg0
  obtain ⟨K, KX, c⟩ := Y
  rw [hnm] at hmg0
  have fx := fx_of KX G c
  obtain ⟨f0, fd0, F0, m0⟩ := fx.fn d List.mem_cons_self
  have e0 : f0 = fa := by rw [hd] at m0; have := m0.symm.trans hmg0; cases this; rfl
  subst e0
  have hps : (d.N.map Str.ofString).take d.fd.n = [Str.ofString "script"] := by rw [h1, ← List.map_take, hN]; rfl
  have hc0 := hc
  unfold chkDs at hc0
  obtain ⟨hc0, _⟩ := ba hc0
  obtain ⟨hc0, _⟩ := ba hc0
  unfold chkD at hc0
  simp only at hc0
  obtain ⟨hc0, _⟩ := ba hc0
  obtain ⟨hc0, c4⟩ := ba hc0
  obtain ⟨_, c3⟩ := ba hc0
  have nd4 : ((d.N.map Str.ofString).take d.fd.n).Nodup := (scopeB_ok c3).nd.sublist (List.take_sublist _ _)
  refine ⟨K, fd0, spOf K (callT (fsOf (d :: ds))) d.name, KX, fun s u => ?_, fun H a ns hl ho hS => ?_, fun base hK hG => ?_⟩
  · rw [hps] at c4 nd4
    exact FunD.bindsA (ps := [Str.ofString "script"]) F0 (fun kV doc pm an cdv ct us hl => bind_plain _ c4 nd4 kV doc pm an cdv ct us hl) s [u] rfl
  · obtain ⟨h', e⟩ := hlaw ns hl
    refine ⟨[], [], [.rol (ns.map .int)], ⟨rfl, List.nodup_nil, fun n o a e => by simp at e⟩, .cons (.rol (script_SqF ho hS) (RMs.ints ns)) .nil, ?_⟩
    rw [hd, e]
    intro μ' H' z _ _ r
    cases r; rfl
  · obtain ⟨a', fd', F', m', _, _, FP⟩ := rowFns (P := l.prog) (w := w) (base := base) (d :: ds) hc fx d List.mem_cons_self
    have e1 : a' = f0 := by have := m'.symm.trans m0; cases this; rfl
    subst e1
    have e2 : fd' = fd0 := by
      obtain ⟨_, _, _, _, _, _, _, _, _, _, _, l1, _⟩ := FP.ex
      obtain ⟨_, _, _, _, _, _, _, _, _, _, _, l2, _⟩ := F0.ex
      have := l1.symm.trans l2
      cases this
      rfl
    subst e2
    rw [hps] at F'
    exact F'
end MP
/-! MP18: reckoning with the evaluator: wants, garbage, turns. -/
namespace MP
def WP {α : Type} (o : O α) (Q : α → MHp → Prop) : Prop := ∃ a h, o = some (.ok a h) ∧ Q a h
theorem wp_congr {α : Type} {x y : O α} (e : x = y) (Q : α → MHp → Prop) : WP x Q = WP y Q := by rw [e]
theorem bnd_congr {α β : Type} {x y : O α} (e : x = y) (f : α → MHp → O β) : bnd x f = bnd y f := by rw [e]
theorem wp_ok {α : Type} (a : α) (h : MHp) (Q : α → MHp → Prop) : WP (some (.ok a h)) Q = Q a h :=
  propext ⟨fun ⟨_, _, e, q⟩ => by cases e; exact q, fun q => ⟨a, h, rfl, q⟩⟩
theorem wp_bnd {α β : Type} (x : O α) (f : α → MHp → O β) (Q : β → MHp → Prop) : WP (bnd x f) Q = WP x fun a h => WP (f a h) Q :=
  propext ⟨fun ⟨b, h, e, q⟩ => by
    match x, e with
    | some (.ok a h1), e => exact ⟨a, h1, rfl, b, h, e, q⟩, fun ⟨a, h1, e, b, h, e2, q⟩ => ⟨b, h, by rw [e]; exact e2, q⟩⟩
theorem wp_mono {α : Type} {x : O α} {P Q : α → MHp → Prop} (w : WP x P) (k : ∀ a h, P a h → Q a h) : WP x Q := by
  obtain ⟨a, h, e, p⟩ := w
  exact ⟨a, h, e, k a h p⟩
theorem wp_iff {α : Type} (b : Prop) [Decidable b] {x y : O α} {Q : α → MHp → Prop} (t : b → WP x Q) (f : ¬b → WP y Q) : WP (if b then x else y) Q := by
  split
  · exact t ‹_›
  · exact f ‹_›
/-! ### garbage -/
mutual
theorem refs_lo (n : Nat) : ∀ v : MV, v.lo n = true → ∀ r ∈ v.refs, r < n
  | .non, _, r, h => by simp [MV.refs] at h
  | .bl _, _, r, h => by simp [MV.refs] at h
  | .int _, _, r, h => by simp [MV.refs] at h
  | .str _, _, r, h => by simp [MV.refs] at h
  | .tup xs, l, r, h => refsL_lo n xs (by simpa [MV.lo] using l) r (by simpa [MV.refs] using h)
  | .rol xs, l, r, h => refsL_lo n xs (by simpa [MV.lo] using l) r (by simpa [MV.refs] using h)
  | .ref m, l, r, h => by
    simp [MV.refs] at h; subst h
    simpa [MV.lo] using l
theorem refsL_lo (n : Nat) : ∀ v : List MV, loL n v = true → ∀ r ∈ refsL v, r < n
  | [], _, r, h => by simp [refsL] at h
  | x :: xs, l, r, h => by
    have ⟨l1, l2⟩ : x.lo n = true ∧ loL n xs = true := by simpa [loL] using l
    rcases List.mem_append.mp (by simpa [refsL] using h) with h | h
    · exact refs_lo n x l1 r h
    · exact refsL_lo n xs l2 r h
end
mutual
theorem ren_lo (n : Nat) (idx : List Nat) : ∀ v : MV, v.lo n = true → v.ren (rn n idx) = v
  | .non, _ => rfl
  | .bl _, _ => rfl
  | .int _, _ => rfl
  | .str _, _ => rfl
  | .tup xs, l => by rw [MV.ren, renL_lo n idx xs (by simpa [MV.lo] using l)]
  | .rol xs, l => by rw [MV.ren, renL_lo n idx xs (by simpa [MV.lo] using l)]
  | .ref m, l => by
    have : m < n := by simpa [MV.lo] using l
    rw [MV.ren, rn, if_pos this]
theorem renL_lo (n : Nat) (idx : List Nat) : ∀ v : List MV, loL n v = true → renL (rn n idx) v = v
  | [], _ => rfl
  | x :: xs, l => by
    have ⟨l1, l2⟩ : x.lo n = true ∧ loL n xs = true := by simpa [loL] using l
    rw [renL, ren_lo n idx x l1, renL_lo n idx xs l2]
end
mutual
theorem lo_mono {n m : Nat} (k : n ≤ m) : ∀ v : MV, v.lo n = true → v.lo m = true
  | .non, _ => rfl
  | .bl _, _ => rfl
  | .int _, _ => rfl
  | .str _, _ => rfl
  | .tup xs, l => by rw [MV.lo]; exact loL_mono k xs (by simpa [MV.lo] using l)
  | .rol xs, l => by rw [MV.lo]; exact loL_mono k xs (by simpa [MV.lo] using l)
  | .ref i, l => by
    have : i < n := by simpa [MV.lo] using l
    simp [MV.lo]; omega
theorem loL_mono {n m : Nat} (k : n ≤ m) : ∀ v : List MV, loL n v = true → loL m v = true
  | [], _ => rfl
  | x :: xs, l => by
    have ⟨l1, l2⟩ : x.lo n = true ∧ loL n xs = true := by simpa [loL] using l
    rw [loL, lo_mono k x l1, loL_mono k xs l2]; rfl
end
theorem loO_mono {n m : Nat} (k : n ≤ m) (o : MO) (l : o.lo n = true) : o.lo m = true := by
  cases o; exact loL_mono k _ l
theorem loH_mono {n m : Nat} (k : n ≤ m) : ∀ h : MHp, loH n h = true → loH m h = true
  | [], _ => rfl
  | o :: h, l => by
    have ⟨l1, l2⟩ : o.lo n = true ∧ loH n h = true := by simpa [loH] using l
    rw [loH, loO_mono k o l1, loH_mono k h l2]; rfl
theorem loH_append (n : Nat) : ∀ a b : MHp, loH n (a ++ b) = (loH n a && loH n b)
  | [], b => by simp [loH]
  | o :: a, b => by simp [loH, loH_append n a b, Bool.and_assoc]
theorem loL_append (n : Nat) : ∀ a b : List MV, loL n (a ++ b) = (loL n a && loL n b)
  | [], b => by simp [loL]
  | o :: a, b => by simp [loL, loL_append n a b, Bool.and_assoc]
theorem loL_iff (n : Nat) : ∀ xs : List MV, loL n xs = true ↔ ∀ x ∈ xs, x.lo n = true
  | [] => by simp [loL]
  | x :: xs => by simp [loL, loL_iff n xs]
theorem loL_map {α : Type} (n : Nat) (f : α → MV) (k : ∀ a, (f a).lo n = true) (xs : List α) : loL n (xs.map f) = true := by
  rw [loL_iff]; intro x h
  obtain ⟨a, _, rfl⟩ := List.mem_map.mp h
  exact k a
theorem news_lo {n : Nat} : ∀ (rs seen : List Nat), (∀ r ∈ rs, r < n) → news n rs seen = []
  | [], _, _ => rfl
  | r :: rs, seen, h => by
    have : r < n := h r List.mem_cons_self
    rw [news, if_neg (by omega), news_lo rs seen fun x hx => h x (List.mem_cons_of_mem _ hx)]
theorem reach_nil (n : Nat) (h : MHp) : ∀ k, reach n h k [] = []
  | 0 => rfl
  | k + 1 => by rw [reach]; rfl
theorem plan_lo {n : Nat} {vs : List MV} {h : MHp} (l : loL n vs = true) (w : loH n (h.take n) = true) : plan n vs h = some ([], []) := by
  have e : news n (refsL vs) [] = [] := news_lo _ _ (refsL_lo n vs l)
  have s : shut n [] (refsL vs) = true := by
    rw [shut, List.all_eq_true]; intro r hr
    have := refsL_lo n vs l r hr
    simp [this]
  rw [plan, if_pos w, e, reach_nil]
  simp [objs, s]
theorem gc_lo {n : Nat} {v : MV} {h : MHp} (l : v.lo n = true) (w : loH n (h.take n) = true) (k : n ≤ h.length) : gc n v h = (v, h.take n) := by
  unfold gc
  by_cases e : h.length = n
  · rw [if_pos e, ← e, List.take_length]
  · rw [if_neg e, plan_lo (by rw [loL, l]; rfl) w]
    simp [ren_lo n [] v l]
theorem gcR_id {n : Nat} {v : MV} {h : MHp} (e : h.length = n) : gcR n (some (.ok v h)) = some (.ok v h) := by
  simp [gcR, gc, e]
theorem gcR_lo {n : Nat} {v : MV} {h t : MHp} (e : h.length = n) (l : v.lo n = true) (w : loH n h = true) : gcR n (some (.ok v (h ++ t))) = some (.ok v h) := by
  have q : (h ++ t).take n = h := by rw [← e]; simp
  simp only [gcR]
  rw [gc_lo l (by rw [q]; exact w) (by simp; omega), q]
/-- one fresh list kept -/
theorem news_one {n : Nat} : news n [n] [] = [n] := by simp [news]
theorem plan_one {n : Nat} {xs : List MV} {h : MHp} (e : h.length = n) (l : loL n xs = true) (w : loH n h = true) (t : MHp) : plan n [.ref n] (h ++ .lst xs :: t) = some ([n], [.lst xs]) := by
  have q : (h ++ .lst xs :: t).take n = h := by rw [← e]; simp
  have g : (h ++ .lst xs :: t)[n]? = some (.lst xs) := by rw [← e]; simp
  have r1 : refsAt (h ++ .lst xs :: t) n = refsL xs := by rw [refsAt, g]; rfl
  have n1 : news n (refsL xs) [n] = [] := news_lo _ _ (refsL_lo n xs l)
  have s : shut n [n] (refsL xs) = true := by
    rw [shut, List.all_eq_true]; intro r hr
    have := refsL_lo n xs l r hr
    simp [this]
  rw [plan, if_pos (by rw [q]; exact w)]
  have e1 : news n (refsL [MV.ref n]) [] = [n] := by simp [refsL, MV.refs, news_one]
  have e2 : reach n (h ++ .lst xs :: t) 6 [n] = [n] := by
    rw [reach]; simp only [List.flatMap_cons, List.flatMap_nil, List.append_nil, r1, n1]
  simp only [e1, e2, objs, g]
  simp [shut, refsL, MV.refs, MO.refs] at s ⊢
  intro x hx hn
  have := s x hx
  omega
theorem plan_at {n m : Nat} {xs : List MV} {h : MHp} (g : h[m]? = some (.lst xs)) (le : n ≤ m) (l : loL n xs = true) (w : loH n (h.take n) = true) : plan n [.ref m] h = some ([m], [.lst xs]) := by
  have r1 : refsAt h m = refsL xs := by rw [refsAt, g]; rfl
  have n1 : news n (refsL xs) [m] = [] := news_lo _ _ (refsL_lo n xs l)
  rw [plan, if_pos w]
  have e1 : news n (refsL [MV.ref m]) [] = [m] := by simp [refsL, MV.refs, news, le]
  have e2 : reach n h 6 [m] = [m] := by
    rw [reach]; simp only [List.flatMap_cons, List.flatMap_nil, List.append_nil, r1, n1]
  simp only [e1, e2, objs, g]
  simp [shut, refsL, MV.refs, MO.refs, le]
  intro x hx hn
  have := refsL_lo n xs l x hx
  omega
theorem gc_at {n m : Nat} {xs : List MV} {h : MHp} (g : h[m]? = some (.lst xs)) (le : n ≤ m) (l : loL n xs = true) (w : loH n (h.take n) = true) : gc n (.ref m) h = (.ref n, h.take n ++ [.lst xs]) := by
  have lt := (List.getElem?_eq_some_iff.mp g).1
  unfold gc
  rw [if_neg (by omega), plan_at g le l w]
  simp only [List.map_cons, List.map_nil, MO.ren, renL_lo n [m] xs l, MV.ren, rn]
  rw [if_neg (by omega)]
  simp
theorem gcR_one {n m : Nat} {xs : List MV} {h t : MHp} (e : h.length = n) (em : m = n) (l : loL n xs = true) (w : loH n h = true) : gcR n (some (.ok (.ref m) (h ++ .lst xs :: t))) = some (.ok (.ref n) (h ++ [.lst xs])) := by
  subst em
  have q : (h ++ .lst xs :: t).take m = h := by rw [← e]; simp
  simp only [gcR, gc]
  rw [if_neg (by simp; omega), plan_one e l w t]
  simp only [q, List.map_cons, List.map_nil, MO.ren, renL_lo m [m] xs l, MV.ren, rn]
  simp
theorem gcE_id {n : Nat} {ρ : En} {h : MHp} (e : h.length = n) : gcE n ρ h = (ρ, h) := by simp [gcE, e]
theorem gcE_lo {n : Nat} {ρ : En} {h t : MHp} (e : h.length = n) (l : loL n (vals ρ) = true) (w : loH n h = true) : gcE n ρ (h ++ t) = (ρ, h) := by
  have q : (h ++ t).take n = h := by rw [← e]; simp
  unfold gcE
  by_cases z : (h ++ t).length = n
  · rw [if_pos z]
    have : t = [] := by simp at z; exact List.eq_nil_of_length_eq_zero (by omega)
    rw [this, List.append_nil]
  · rw [if_neg z, plan_lo l (by rw [q]; exact w)]
    simp only [List.map_nil, List.append_nil, q]
    congr 1
    have : ∀ ρ : En, loL n (vals ρ) = true → (ρ.map fun o => o.map (·.ren (rn n []))) = ρ := by
      intro ρ
      induction ρ with
      | nil => intro _; rfl
      | cons o ρ ih =>
        intro l
        cases o with
        | none => rw [List.map_cons, ih (by simpa [vals] using l)]; rfl
        | some v =>
          have ⟨l1, l2⟩ : v.lo n = true ∧ loL n (vals ρ) = true := by simpa [vals, loL] using l
          rw [List.map_cons, ih l2, Option.map_some, ren_lo n [] v l1]
    exact this ρ l
abbrev Wf (h : MHp) : Prop := loH h.length h = true
theorem wf_app {h : MHp} {o : MO} (w : Wf h) (l : o.lo h.length = true) : Wf (h ++ [o]) := by
  unfold Wf at w ⊢
  rw [loH_append, loH_mono (n := h.length) (by simp) h w, loH, loO_mono (n := h.length) (by simp) o l]; rfl
theorem wf_app2 {h : MHp} {o o2 : MO} (w : Wf h) (l : o.lo h.length = true) (l2 : o2.lo h.length = true) : Wf (h ++ [o, o2]) := by
  have := wf_app (wf_app w l) (loO_mono (n := h.length) (by simp) o2 l2)
  simpa using this
theorem wf_app3 {h : MHp} {o o2 o3 : MO} (w : Wf h) (l : o.lo h.length = true) (l2 : o2.lo h.length = true) (l3 : o3.lo h.length = true) : Wf (h ++ [o, o2, o3]) := by
  have := wf_app (wf_app2 w l l2) (loO_mono (n := h.length) (by simp) o3 l3)
  simpa using this
/-! ### turns -/
theorem wp_forL {f : MV → En → MHp → O F} {Q : F → MHp → Prop} (Inv : List MV → En → MHp → Prop) :
    ∀ (k : Nat) (i : Nat) (xs : List MV) (ρ : En) (h : MHp), xs.length = i + k → Inv (xs.drop i) ρ h →
    (∀ x rest ρ h, Inv (x :: rest) ρ h → WP (f x ρ h) fun fl h' => match fl with | .nx ρ' => Inv rest ρ' h' | .bk ρ' => Q (.nx ρ') h' | .rt v => Q (.rt v) h') →
    (∀ ρ h, Inv [] ρ h → Q (.nx ρ) h) → WP (forL f (.one (.vals xs) xs.length) k i ρ h) Q
  | 0, i, xs, ρ, h, hl, hi, st, fin => by
    rw [forL, if_pos (by simp [lenI, Src.get]; omega)]
    rw [List.drop_of_length_le (by omega)] at hi
    exact ⟨_, _, rfl, fin ρ h hi⟩
  | k + 1, i, xs, ρ, h, hl, hi, st, fin => by
    have hlt : i < xs.length := by omega
    rw [forL]
    have e : itemI h i (.one (.vals xs) xs.length) = some xs[i] := by simp [itemI, Src.get, hlt]
    rw [e]
    rw [List.drop_eq_getElem_cons hlt] at hi
    simp only [wp_bnd]
    refine wp_mono (st _ _ _ _ hi) fun fl h' q => ?_
    cases fl with
    | nx ρ' => exact wp_forL Inv k (i + 1) xs ρ' h' (by omega) q st fin
    | bk ρ' => exact ⟨_, _, rfl, q⟩
    | rt v => exact ⟨_, _, rfl, q⟩
theorem wp_for {f : MV → En → MHp → O F} {Q : F → MHp → Prop} (Inv : List MV → En → MHp → Prop) {xs : List MV} {k : Nat} {ρ : En} {h : MHp} (hk : xs.length = k) (hi : Inv xs ρ h)
    (st : ∀ x rest ρ h, Inv (x :: rest) ρ h → WP (f x ρ h) fun fl h' => match fl with | .nx ρ' => Inv rest ρ' h' | .bk ρ' => Q (.nx ρ') h' | .rt v => Q (.rt v) h')
    (fin : ∀ ρ h, Inv [] ρ h → Q (.nx ρ) h) : WP (forL f (.one (.vals xs) k) k 0 ρ h) Q := by
  subst hk
  exact wp_forL Inv xs.length 0 xs ρ h (by omega) hi st fin
theorem rngL_length (lo : Int) (n : Nat) : (rngL lo n).length = n := by simp [rngL]
/-- over a range: the turn's number -/
theorem wp_rng {f : MV → En → MHp → O F} {Q : F → MHp → Prop} (Inv : Nat → En → MHp → Prop) {lo : Int} {k : Nat} {ρ : En} {h : MHp} (hi : Inv 0 ρ h)
    (st : ∀ i ρ h, i < k → Inv i ρ h → WP (f (.int (lo + i)) ρ h) fun fl h' => match fl with | .nx ρ' => Inv (i + 1) ρ' h' | .bk ρ' => Q (.nx ρ') h' | .rt v => Q (.rt v) h')
    (fin : ∀ ρ h, Inv k ρ h → Q (.nx ρ) h) : WP (forL f (.one (.vals (rngL lo k)) k) k 0 ρ h) Q := by
  refine wp_for (fun rest ρ h => ∃ i, i ≤ k ∧ rest = (rngL lo k).drop i ∧ Inv i ρ h) (rngL_length lo k) ⟨0, Nat.zero_le _, rfl, hi⟩ ?_ ?_
  · rintro x rest ρ h ⟨i, hi, e, q⟩
    have hlt : i < k := by
      rcases Nat.lt_or_ge i k with z | z
      · exact z
      · rw [List.drop_of_length_le (by rw [rngL_length]; omega)] at e; cases e
    rw [List.drop_eq_getElem_cons (by rw [rngL_length]; exact hlt)] at e
    cases e
    have ex : (rngL lo k)[i]'(by rw [rngL_length]; exact hlt) = .int (lo + i) := by simp [rngL]
    rw [ex]
    refine wp_mono (st i ρ h hlt q) fun fl h' q => ?_
    cases fl with
    | nx ρ' => exact ⟨i + 1, hlt, rfl, q⟩
    | bk ρ' => exact q
    | rt v => exact q
  · rintro ρ h ⟨i, hi, e, q⟩
    have : i = k := by
      have := congrArg List.length e
      simp [rngL_length] at this
      omega
    subst this
    exact fin ρ h q
theorem wp_compL {f : MV → MHp → O (Option MV)} {Q : List MV → MHp → Prop} (Inv : List MV → List MV → MHp → Prop) :
    ∀ (k : Nat) (i : Nat) (xs acc : List MV) (h : MHp), xs.length = i + k → Inv (xs.drop i) acc h →
    (∀ x rest acc h, Inv (x :: rest) acc h → WP (f x h) fun o h' => Inv rest (match o with | none => acc | some y => acc ++ [y]) h') →
    (∀ acc h, Inv [] acc h → Q acc h) → WP (compL f (.one (.vals xs) xs.length) k i h) fun ys h => Q (acc ++ ys) h
  | 0, i, xs, acc, h, hl, hi, st, fin => by
    rw [compL, if_pos (by simp [lenI, Src.get]; omega)]
    rw [List.drop_of_length_le (by omega)] at hi
    refine ⟨_, _, rfl, ?_⟩
    show Q (acc ++ []) h
    rw [List.append_nil]
    exact fin _ h hi
  | k + 1, i, xs, acc, h, hl, hi, st, fin => by
    have hlt : i < xs.length := by omega
    rw [compL]
    have e : itemI h i (.one (.vals xs) xs.length) = some xs[i] := by simp [itemI, Src.get, hlt]
    rw [e]
    rw [List.drop_eq_getElem_cons hlt] at hi
    simp only [wp_bnd]
    refine wp_mono (st _ _ _ _ hi) fun o h' q => ?_
    refine wp_mono (wp_compL Inv k (i + 1) xs _ h' (by omega) q st fin) fun ys h2 z => ?_
    refine ⟨_, _, rfl, ?_⟩
    cases o with
    | none => exact z
    | some y => simpa using z
theorem wp_comp {f : MV → MHp → O (Option MV)} {Q : List MV → MHp → Prop} (Inv : List MV → List MV → MHp → Prop) {xs : List MV} {k : Nat} {h : MHp} (hk : xs.length = k) (hi : Inv xs [] h)
    (st : ∀ x rest acc h, Inv (x :: rest) acc h → WP (f x h) fun o h' => Inv rest (match o with | none => acc | some y => acc ++ [y]) h')
    (fin : ∀ acc h, Inv [] acc h → Q acc h) : WP (compL f (.one (.vals xs) k) k 0 h) Q := by
  subst hk
  refine wp_mono (wp_compL Inv xs.length 0 xs [] h (by omega) hi st fin) fun ys h q => by simpa using q
theorem wp_compR {f : MV → MHp → O (Option MV)} {Q : List MV → MHp → Prop} (Inv : Nat → List MV → MHp → Prop) {lo : Int} {k : Nat} {h : MHp} (hi : Inv 0 [] h)
    (st : ∀ i acc h, i < k → Inv i acc h → WP (f (.int (lo + i)) h) fun o h' => Inv (i + 1) (match o with | none => acc | some y => acc ++ [y]) h')
    (fin : ∀ acc h, Inv k acc h → Q acc h) : WP (compL f (.one (.vals (rngL lo k)) k) k 0 h) Q := by
  refine wp_comp (fun rest acc h => ∃ i, i ≤ k ∧ rest = (rngL lo k).drop i ∧ Inv i acc h) (rngL_length lo k) ⟨0, Nat.zero_le _, rfl, hi⟩ ?_ ?_
  · rintro x rest acc h ⟨i, hi, e, q⟩
    have hlt : i < k := by
      rcases Nat.lt_or_ge i k with z | z
      · exact z
      · rw [List.drop_of_length_le (by rw [rngL_length]; omega)] at e; cases e
    rw [List.drop_eq_getElem_cons (by rw [rngL_length]; exact hlt)] at e
    cases e
    have ex : (rngL lo k)[i]'(by rw [rngL_length]; exact hlt) = .int (lo + i) := by simp [rngL]
    rw [ex]
    exact wp_mono (st i acc h hlt q) fun o h' q => ⟨i + 1, hlt, rfl, q⟩
  · rintro acc h ⟨i, hi, e, q⟩
    have : i = k := by
      have := congrArg List.length e
      simp [rngL_length] at this
      omega
    subst this
    exact fin acc h q
theorem wp_compG {f : MV → MHp → O (Option MV)} {its : Items} (Inv : Nat → List MV → MHp → Prop) {k : Nat} {Q : List MV → MHp → Prop}
    (st : ∀ i acc h, i < k → Inv i acc h → ∃ x, itemI h i its = some x ∧ WP (f x h) fun o h' => Inv (i + 1) (match o with | none => acc | some y => acc ++ [y]) h')
    (fin : ∀ acc h, Inv k acc h → lenI h its = some k ∧ Q acc h) : ∀ (m i : Nat) (acc : List MV) (h : MHp), i + m = k → Inv i acc h → WP (compL f its m i h) fun ys h => Q (acc ++ ys) h
  | 0, i, acc, h, hk, hi => by
    have : i = k := by omega
    subst this
    obtain ⟨l, q⟩ := fin acc h hi
    rw [compL, if_pos l]
    refine ⟨_, _, rfl, ?_⟩
    show Q (acc ++ []) h
    rw [List.append_nil]
    exact q
  | m + 1, i, acc, h, hk, hi => by
    obtain ⟨x, e, w⟩ := st i acc h (by omega) hi
    rw [compL, e]
    simp only [wp_bnd]
    refine wp_mono w fun o h' q => ?_
    refine wp_mono (wp_compG Inv st fin m (i + 1) _ h' (by omega) q) fun ys h2 z => ?_
    refine ⟨_, _, rfl, ?_⟩
    cases o with
    | none => exact z
    | some y => simpa using z
theorem wp_compI {f : MV → MHp → O (Option MV)} {its : Items} {Q : List MV → MHp → Prop} {h : MHp} (Inv : Nat → List MV → MHp → Prop) (hi : Inv 0 [] h)
    (st : ∀ i acc h, i < countI its → Inv i acc h → ∃ x, itemI h i its = some x ∧ WP (f x h) fun o h' => Inv (i + 1) (match o with | none => acc | some y => acc ++ [y]) h')
    (fin : ∀ acc h, Inv (countI its) acc h → lenI h its = some (countI its) ∧ Q acc h) : WP (compL f its (countI its) 0 h) Q :=
  wp_mono (wp_compG Inv st fin (countI its) 0 [] h (by omega) hi) fun ys h q => by simpa using q
theorem wp_noEx {α : Type} {x : O α} {Q : α → MHp → Prop} : WP (noEx x) Q = WP x Q := by
  match x with
  | none => rfl
  | some (.ok a h) => rfl
  | some (.ex c h) =>
    refine propext ⟨?_, ?_⟩
    · rintro ⟨_, _, e, _⟩; cases e
    · rintro ⟨_, _, e, _⟩; cases e
theorem wp_tidy {n : Nat} {kill : List Nat} {x : O F} {Q : F → MHp → Prop} (w : WP x fun fl h => match fl with | .nx ρ => Q (.nx (gcE n (killE ρ kill) h).1) (gcE n (killE ρ kill) h).2 | f => Q f h) : WP (tidy n kill x) Q := by
  obtain ⟨fl, h, rfl, q⟩ := w
  cases fl with
  | nx ρ => exact ⟨_, _, rfl, q⟩
  | bk ρ => exact ⟨_, _, rfl, q⟩
  | rt v => exact ⟨_, _, rfl, q⟩
theorem wp_gcR {n : Nat} {x : O MV} {Q : MV → MHp → Prop} (w : WP x fun v h => Q (gc n v h).1 (gc n v h).2) : WP (gcR n x) Q := by
  obtain ⟨v, h, rfl, q⟩ := w
  exact ⟨_, _, rfl, q⟩
/-! ### calls -/
def findF : List (String × Fd) → String → Option (Fd × List (String × Fd))
  | [], _ => none
  | (f, fd) :: rest, g => if g = f then some (fd, rest) else findF rest g
theorem callT_find : ∀ {fs : List (String × Fd)} {g : String} {fd : Fd} {rest : List (String × Fd)}, findF fs g = some (fd, rest) → callT fs g = runF (callT rest) fd
  | [], _, _, _, h => by cases h
  | (f, fd0) :: fs, g, fd, rest, h => by
    rw [findF] at h
    funext vs h0
    show (if g = f then runF (callT fs) fd0 vs h0 else callT fs g vs h0) = _
    split at h
    · cases h; rw [if_pos ‹_›]
    · rw [if_neg ‹_›, callT_find h]
theorem wp_run {C : Ora} {fd : Fd} {vs : List MV} {h : MHp} {Q : MV → MHp → Prop} (hl : vs.length = fd.n)
    (w : WP (evSs C fd.body (env0 fd vs) h) fun fl h' => match fl with | .nx _ => Q (gc h.length .non h').1 (gc h.length .non h').2 | .rt v => Q (gc h.length v h').1 (gc h.length v h').2 | .bk _ => False) : WP (runF C fd vs h) Q := by
  obtain ⟨fl, h', e, q⟩ := w
  rw [runF, if_pos hl, e]
  cases fl with
  | nx ρ => exact ⟨_, _, rfl, q⟩
  | bk ρ => exact q.elim
  | rt v => exact ⟨_, _, rfl, q⟩
end MP
/-! MP19: rules, one a construct, over wants. -/
namespace MP
def WS (o : O F) (N B : En → MHp → Prop) (K : MV → MHp → Prop) : Prop := WP o fun f h => match f with | .nx ρ => N ρ h | .bk ρ => B ρ h | .rt v => K v h
def GC (n : Nat) (v : MV) (h : MHp) (Q : MV → MHp → Prop) : Prop := Q (gc n v h).1 (gc n v h).2
/-- a truth parts the ways; a number; a comparison -/
def BR (v : MV) (A B : Prop) : Prop := ∃ b, v = .bl b ∧ (b = true → A) ∧ (b = false → B)
def BL (v : MV) (P : Bool → Prop) : Prop := ∃ b, v = .bl b ∧ P b
def NT (v : MV) (Q : MV → Prop) : Prop := ∃ b, v = .bl b ∧ Q (.bl (!b))
def IS (h : MHp) (v : MV) (t : String) (P : Bool → Prop) : Prop := ∃ u, tyV h v = some u ∧ P (isiV u t)
theorem nt_t {Q : MV → Prop} (q : Q (.bl false)) : NT (.bl true) Q := ⟨true, rfl, q⟩
theorem nt_f {Q : MV → Prop} (q : Q (.bl true)) : NT (.bl false) Q := ⟨false, rfl, q⟩
theorem nt_n {p : Prop} {dp : Decidable p} {Q : MV → Prop} (q : Q (.bl (decide p))) : NT (.bl (!decide p)) Q := ⟨_, rfl, by rw [Bool.not_not]; exact q⟩
theorem nt_b {b : Bool} {Q : MV → Prop} (q : Q (.bl (!b))) : NT (.bl b) Q := ⟨b, rfl, q⟩
theorem is_of {h : MHp} {v : MV} {t u : String} {r : Bool} {P : Bool → Prop} (e : tyV h v = some u) (z : isiV u t = r) (p : P r) : IS h v t P := ⟨u, e, by rw [z]; exact p⟩
section
variable {h : MHp} {P : Bool → Prop}
theorem is_ii {i : Int} (p : P true) : IS h (.int i) "int" P := is_of rfl (by decide) p
theorem is_ib {i : Int} (p : P false) : IS h (.int i) "bool" P := is_of rfl (by decide) p
theorem is_il {i : Int} (p : P false) : IS h (.int i) "list" P := is_of rfl (by decide) p
theorem is_it {i : Int} (p : P false) : IS h (.int i) "tuple" P := is_of rfl (by decide) p
theorem is_is {i : Int} (p : P false) : IS h (.int i) "str" P := is_of rfl (by decide) p
theorem is_bb {i : Bool} (p : P true) : IS h (.bl i) "bool" P := is_of rfl (by decide) p
theorem is_bi {i : Bool} (p : P true) : IS h (.bl i) "int" P := is_of rfl (by decide) p
theorem is_bt {i : Bool} (p : P false) : IS h (.bl i) "tuple" P := is_of rfl (by decide) p
theorem is_bl {i : Bool} (p : P false) : IS h (.bl i) "list" P := is_of rfl (by decide) p
theorem is_bs {i : Bool} (p : P false) : IS h (.bl i) "str" P := is_of rfl (by decide) p
theorem is_ni (p : P false) : IS h .non "int" P := is_of rfl (by decide) p
theorem is_nb (p : P false) : IS h .non "bool" P := is_of rfl (by decide) p
theorem is_nt (p : P false) : IS h .non "tuple" P := is_of rfl (by decide) p
theorem is_nl (p : P false) : IS h .non "list" P := is_of rfl (by decide) p
theorem is_ns (p : P false) : IS h .non "str" P := is_of rfl (by decide) p
theorem is_tt {xs : List MV} (p : P true) : IS h (.tup xs) "tuple" P := is_of rfl (by decide) p
theorem is_ti {xs : List MV} (p : P false) : IS h (.tup xs) "int" P := is_of rfl (by decide) p
theorem is_tb {xs : List MV} (p : P false) : IS h (.tup xs) "bool" P := is_of rfl (by decide) p
theorem is_tl {xs : List MV} (p : P false) : IS h (.tup xs) "list" P := is_of rfl (by decide) p
theorem is_ts {xs : List MV} (p : P false) : IS h (.tup xs) "str" P := is_of rfl (by decide) p
theorem is_ss {xs : List Nat} (p : P true) : IS h (.str xs) "str" P := is_of rfl (by decide) p
theorem is_si {xs : List Nat} (p : P false) : IS h (.str xs) "int" P := is_of rfl (by decide) p
theorem is_sb {xs : List Nat} (p : P false) : IS h (.str xs) "bool" P := is_of rfl (by decide) p
theorem is_st {xs : List Nat} (p : P false) : IS h (.str xs) "tuple" P := is_of rfl (by decide) p
theorem is_sl {xs : List Nat} (p : P false) : IS h (.str xs) "list" P := is_of rfl (by decide) p
theorem is_rl {a : Nat} {xs : List MV} (g : h[a]? = some (.lst xs)) (p : P true) : IS h (.ref a) "list" P := is_of (by rw [tyV, g]) (by decide) p
theorem is_rt {a : Nat} {xs : List MV} (g : h[a]? = some (.lst xs)) (p : P false) : IS h (.ref a) "tuple" P := is_of (by rw [tyV, g]) (by decide) p
theorem is_ri {a : Nat} {xs : List MV} (g : h[a]? = some (.lst xs)) (p : P false) : IS h (.ref a) "int" P := is_of (by rw [tyV, g]) (by decide) p
theorem is_rb {a : Nat} {xs : List MV} (g : h[a]? = some (.lst xs)) (p : P false) : IS h (.ref a) "bool" P := is_of (by rw [tyV, g]) (by decide) p
end
def INT (v : MV) (P : Int → Prop) : Prop := ∃ i, v = .int i ∧ P i
def CM (op : Cmp) (x y : MV) (h : MHp) (P : Bool → Prop) : Prop := ∃ r, cmpV op x y h = some r ∧ P r
theorem br_t {A B : Prop} (a : A) : BR (.bl true) A B := ⟨true, rfl, fun _ => a, fun z => absurd z (by decide)⟩
theorem br_f {A B : Prop} (b : B) : BR (.bl false) A B := ⟨false, rfl, fun z => absurd z (by decide), fun _ => b⟩
theorem br_d {p : Prop} {dp : Decidable p} {A B : Prop} (a : p → A) (b : ¬p → B) : BR (.bl (decide p)) A B := ⟨_, rfl, fun z => a (of_decide_eq_true z), fun z => b (of_decide_eq_false z)⟩
theorem br_n {p : Prop} {dp : Decidable p} {A B : Prop} (a : ¬p → A) (b : p → B) : BR (.bl (!decide p)) A B := ⟨_, rfl, fun z => a (by simpa using z), fun z => b (by simpa using z)⟩
theorem br_nn {p : Prop} {dp : Decidable p} {A B : Prop} (a : p → A) (b : ¬p → B) : BR (.bl (!!decide p)) A B := ⟨_, rfl, fun z => a (by simpa using z), fun z => b (by simpa using z)⟩
theorem br_b {c : Bool} {A B : Prop} (a : c = true → A) (b : c = false → B) : BR (.bl c) A B := ⟨_, rfl, a, b⟩
theorem br_dt {p : Prop} {dp : Decidable p} {A B : Prop} (h : p) (a : A) : BR (.bl (decide p)) A B := br_d (fun _ => a) fun z => absurd h z
theorem br_df {p : Prop} {dp : Decidable p} {A B : Prop} (h : ¬p) (a : B) : BR (.bl (decide p)) A B := br_d (fun z => absurd z h) fun _ => a
theorem br_nt {p : Prop} {dp : Decidable p} {A B : Prop} (h : ¬p) (a : A) : BR (.bl (!decide p)) A B := br_n (fun _ => a) fun z => absurd z h
theorem br_nf {p : Prop} {dp : Decidable p} {A B : Prop} (h : p) (a : B) : BR (.bl (!decide p)) A B := br_n (fun z => absurd h z) fun _ => a
theorem bl_of {b : Bool} {P : Bool → Prop} (p : P b) : BL (.bl b) P := ⟨b, rfl, p⟩
theorem int_of {i : Int} {P : Int → Prop} (p : P i) : INT (.int i) P := ⟨i, rfl, p⟩
theorem cm_of {op : Cmp} {x y : MV} {h : MHp} {r : Bool} {P : Bool → Prop} (e : cmpV op x y h = some r) (p : P r) : CM op x y h P := ⟨r, e, p⟩
def GE (n : Nat) (ρ : En) (h : MHp) (P : En → MHp → Prop) : Prop := P (gcE n ρ h).1 (gcE n ρ h).2
section
variable {C : Ora} {ρ : En} {h : MHp} {Q : MV → MHp → Prop} {n : Nat}
theorem g_id {v : MV} (e : h.length = n) (q : Q v h) : GC n v h Q := by
  unfold GC; simp [gc, e]; exact q
theorem g_lo {v : MV} {t : MHp} (e : h.length = n) (l : v.lo n = true) (w : loH n h = true) (q : Q v h) : GC n v (h ++ t) Q := by
  have z : (h ++ t).take n = h := by rw [← e]; simp
  unfold GC; rw [gc_lo l (by rw [z]; exact w) (by simp; omega), z]; exact q
theorem g_one {m : Nat} {xs : List MV} {t : MHp} (e : h.length = n) (em : m = n) (l : loL n xs = true) (w : loH n h = true) (q : Q (.ref n) (h ++ [.lst xs])) : GC n (.ref m) (h ++ .lst xs :: t) Q := by
  have z := gcR_one (t := t) e em l w
  simp only [gcR, Option.some.injEq, R.ok.injEq] at z
  unfold GC; rw [z.1, z.2]; exact q
theorem ge_id {ρ2 : En} {kill : List Nat} {P : En → MHp → Prop} (k : killE ρ kill = ρ2) (e : h.length = n) (q : P ρ2 h) : GE n (killE ρ kill) h P := by
  unfold GE; rw [k, gcE_id e]; exact q
theorem ge_lo {ρ2 : En} {kill : List Nat} {t : MHp} {P : En → MHp → Prop} (k : killE ρ kill = ρ2) (e : h.length = n) (l : loL n (vals ρ2) = true) (w : loH n h = true) (q : P ρ2 h) : GE n (killE ρ kill) (h ++ t) P := by
  unfold GE; rw [k, gcE_lo e l w]; exact q
theorem w_gcR {x : O MV} (w : WP x fun v h => GC n v h Q) : WP (gcR n x) Q := wp_gcR w
/-! ### expressions -/
theorem g_at {m : Nat} {xs : List MV} {t : MHp} (g : (h ++ t)[m]? = some (.lst xs)) (e : h.length = n) (em : n ≤ m) (l : loL n xs = true) (w : loH n h = true) (q : Q (.ref n) (h ++ [.lst xs])) : GC n (.ref m) (h ++ t) Q := by
  have z : (h ++ t).take n = h := by rw [← e]; simp
  unfold GC; rw [gc_at g em l (by rw [z]; exact w), z]; exact q
theorem g_last {m : Nat} {xs : List MV} {t : MHp} (e : h.length = n) (em : m = (h ++ t).length) (l : loL n xs = true) (w : loH n h = true) (q : Q (.ref n) (h ++ [.lst xs])) : GC n (.ref m) ((h ++ t) ++ [.lst xs]) Q := by
  rw [List.append_assoc]
  refine g_at (xs := xs) ?_ e ?_ l w q
  · subst em; rw [← List.append_assoc]; simp
  · rw [em]; simp; omega
theorem g_bl {b : Bool} (q : ∀ h', Q (.bl b) h') : GC n (.bl b) h Q := by
  have e : (gc n (.bl b) h).1 = .bl b := by
    unfold gc
    split
    · rfl
    · split <;> rfl
  unfold GC; rw [e]; exact q _
theorem g_lo2 {v : MV} {t u : MHp} (e : h.length = n) (l : v.lo n = true) (w : loH n h = true) (q : Q v h) : GC n v ((h ++ t) ++ u) Q := by
  rw [List.append_assoc]; exact g_lo e l w q
theorem e_non (q : Q .non h) : WP (evE C ρ .non h) Q := ⟨_, _, rfl, q⟩
theorem e_bl {b : Bool} (q : Q (.bl b) h) : WP (evE C ρ (.bl b) h) Q := ⟨_, _, rfl, q⟩
theorem e_int {i : Int} (q : Q (.int i) h) : WP (evE C ρ (.int i) h) Q := ⟨_, _, rfl, q⟩
theorem e_str {s : List Nat} (q : Q (.str s) h) : WP (evE C ρ (.str s) h) Q := ⟨_, _, rfl, q⟩
theorem e_glb {x : String} {s : List Nat} (q : Q (.str s) h) : WP (evE C ρ (.glb x s) h) Q := ⟨_, _, rfl, q⟩
theorem e_var {i : Nat} {v : MV} (e : ρ[i]? = some (some v)) (q : Q v h) : WP (evE C ρ (.var i) h) Q := ⟨v, h, by rw [evE, e]; rfl, q⟩
theorem e_bin {op : Op2} {a b : E} (w : WP (evE C ρ a h) fun x h1 => WP (evE C ρ b h1) fun y h2 => WP (binV op x y h2) fun v h3 => GC h.length v h3 Q) : WP (evE C ρ (.bin op a b) h) Q := by
  rw [evE]; simp only [wp_bnd]
  exact wp_mono w fun x h1 w => wp_mono w fun y h2 w => w_gcR w
theorem e_neg {a : E} (w : WP (evE C ρ a h) fun x h1 => INT x fun i => Q (.int (-i)) h1) : WP (evE C ρ (.neg a) h) Q := by
  rw [evE]; simp only [wp_bnd]
  refine wp_mono w fun x h1 w => ?_
  obtain ⟨i, rfl, q⟩ := w
  exact ⟨_, _, rfl, q⟩
theorem e_not {a : E} (w : WP (evE C ρ a h) fun x h1 => NT x fun v => Q v h1) : WP (evE C ρ (.not a) h) Q := by
  rw [evE]; simp only [wp_bnd]
  refine wp_mono w fun x h1 w => ?_
  obtain ⟨i, rfl, q⟩ := w
  exact ⟨_, _, rfl, _, _, rfl, q⟩
theorem e_and {es : Es} (w : WP (evAnd C ρ es h) Q) : WP (evE C ρ (.and es) h) Q := by rw [evE]; exact w
theorem e_or {es : Es} (w : WP (evOr C ρ es h) Q) : WP (evE C ρ (.or es) h) Q := by rw [evE]; exact w
theorem a_one {e : E} (w : WP (evE C ρ e h) Q) : WP (evAnd C ρ (.cons e .nil) h) Q := by rw [evAnd]; exact w
theorem o_one {e : E} (w : WP (evE C ρ e h) Q) : WP (evOr C ρ (.cons e .nil) h) Q := by rw [evOr]; exact w
theorem a_two {e e2 : E} {es : Es} (w : WP (evE C ρ e h) fun x h1 => BR x (WP (evAnd C ρ (.cons e2 es) h1) Q) (Q (.bl false) h1)) : WP (evAnd C ρ (.cons e (.cons e2 es)) h) Q := by
  rw [evAnd]; simp only [wp_bnd]
  refine wp_mono w fun x h1 w => ?_
  obtain ⟨b, rfl, t, f⟩ := w
  refine ⟨_, _, rfl, ?_⟩
  cases b with
  | true => exact t rfl
  | false => exact ⟨_, _, rfl, f rfl⟩
theorem o_two {e e2 : E} {es : Es} (w : WP (evE C ρ e h) fun x h1 => BR x (Q (.bl true) h1) (WP (evOr C ρ (.cons e2 es) h1) Q)) : WP (evOr C ρ (.cons e (.cons e2 es)) h) Q := by
  rw [evOr]; simp only [wp_bnd]
  refine wp_mono w fun x h1 w => ?_
  obtain ⟨b, rfl, t, f⟩ := w
  refine ⟨_, _, rfl, ?_⟩
  cases b with
  | true => exact ⟨_, _, rfl, t rfl⟩
  | false => exact f rfl
theorem e_cmp {op : Cmp} {a b : E} (w : WP (evE C ρ a h) fun x h1 => WP (evE C ρ b h1) fun y h2 => CM op x y h2 fun r => GC h.length (.bl r) h2 Q) : WP (evE C ρ (.cmp op a b) h) Q := by
  rw [evE]; simp only [wp_bnd]
  refine wp_mono w fun x h1 w => wp_mono w fun y h2 w => ?_
  obtain ⟨r, e, q⟩ := w
  rw [e]
  exact w_gcR ⟨_, _, rfl, q⟩
theorem e_chn {a : E} {c : Ch} (w : WP (evE C ρ a h) fun x h1 => WP (evCh C ρ c x h1) fun v h2 => GC h.length v h2 Q) : WP (evE C ρ (.chn a c) h) Q := by
  rw [evE]; simp only [wp_bnd]
  exact wp_mono w fun x h1 w => w_gcR w
theorem c_one {op : Cmp} {b : E} {x : MV} (w : WP (evE C ρ b h) fun y h1 => CM op x y h1 fun r => Q (.bl r) h1) : WP (evCh C ρ (.one op b) x h) Q := by
  rw [evCh]; simp only [wp_bnd]
  refine wp_mono w fun y h1 w => ?_
  obtain ⟨r, e, q⟩ := w
  rw [e]; exact ⟨_, _, rfl, q⟩
theorem c_more {op : Cmp} {b : E} {c : Ch} {x : MV} (w : WP (evE C ρ b h) fun y h1 => CM op x y h1 fun r => BR (.bl r) (WP (evCh C ρ c y h1) Q) (Q (.bl false) h1)) : WP (evCh C ρ (.more op b c) x h) Q := by
  rw [evCh]; simp only [wp_bnd]
  refine wp_mono w fun y h1 w => ?_
  obtain ⟨r0, e, r, e2, t, f⟩ := w
  obtain rfl := MV.bl.inj e2
  rw [e]
  cases r0 with
  | true => exact t rfl
  | false => exact ⟨_, _, rfl, f rfl⟩
theorem e_ite {c a b : E} (w : WP (evE C ρ c h) fun x h1 => BR x (WP (evE C ρ a h1) Q) (WP (evE C ρ b h1) Q)) : WP (evE C ρ (.ite c a b) h) Q := by
  rw [evE]; simp only [wp_bnd]
  refine wp_mono w fun y h1 w => ?_
  obtain ⟨r, rfl, t, f⟩ := w
  refine ⟨_, _, rfl, ?_⟩
  cases r with
  | true => exact t rfl
  | false => exact f rfl
theorem es_nil {Q : List MV → MHp → Prop} (q : Q [] h) : WP (evEs C ρ .nil h) Q := ⟨_, _, rfl, q⟩
theorem es_cons {Q : List MV → MHp → Prop} {e : E} {es : Es} (w : WP (evE C ρ e h) fun v h1 => WP (evEs C ρ es h1) fun vs h2 => Q (v :: vs) h2) : WP (evEs C ρ (.cons e es) h) Q := by
  rw [evEs]; simp only [wp_bnd]
  exact wp_mono w fun v h1 w => wp_mono w fun vs h2 q => ⟨_, _, rfl, q⟩
theorem e_tup {es : Es} (w : WP (evEs C ρ es h) fun vs h1 => vs.length ≤ big ∧ Q (.tup vs) h1) : WP (evE C ρ (.tup es) h) Q := by
  rw [evE]; simp only [wp_bnd]
  refine wp_mono w fun v h1 w => ?_
  rw [if_pos w.1]; exact ⟨_, _, rfl, w.2⟩
theorem e_lst {es : Es} (w : WP (evEs C ρ es h) fun vs h1 => vs.length ≤ big ∧ Q (.ref h1.length) (h1 ++ [.lst vs])) : WP (evE C ρ (.lst es) h) Q := by
  rw [evE]; simp only [wp_bnd]
  refine wp_mono w fun v h1 w => ?_
  rw [if_pos w.1]; exact ⟨_, _, rfl, w.2⟩
theorem e_call {f : String} {es : Es} (w : WP (evEs C ρ es h) fun vs h1 => WP (C f vs h1) fun v h2 => GC h.length v h2 Q) : WP (evE C ρ (.call f es) h) Q := by
  rw [evE]; simp only [wp_bnd]
  exact wp_mono w fun v h1 w => w_gcR w
theorem e_bi {b : Bi} {es : Es} (w : WP (evEs C ρ es h) fun vs h1 => WP (biV b vs h1) fun v h2 => GC h.length v h2 Q) : WP (evE C ρ (.bi b es) h) Q := by
  rw [evE]; simp only [wp_bnd]
  exact wp_mono w fun v h1 w => w_gcR w
theorem e_isi {a : E} {t : String} (w : WP (evE C ρ a h) fun x h1 => IS h1 x t fun b => GC h.length (.bl b) h1 Q) : WP (evE C ρ (.isi a t) h) Q := by
  rw [evE]; simp only [wp_bnd]
  refine wp_mono w fun v h1 w => ?_
  obtain ⟨u, e, q⟩ := w
  rw [e]; exact w_gcR ⟨_, _, rfl, q⟩
theorem e_meth {m : Mt} {o : E} {es : Es} (w : WP (evE C ρ o h) fun x h1 => rcvOk m x h1 = true ∧ WP (evEs C ρ es h1) fun vs h2 => WP (mtV m x vs h2) fun v h3 => GC h.length v h3 Q) : WP (evE C ρ (.meth m o es) h) Q := by
  rw [evE]; simp only [wp_bnd]
  refine wp_mono w fun v h1 w => ?_
  rw [if_pos w.1]; simp only [wp_bnd]
  exact wp_mono w.2 fun v h1 w => w_gcR w
theorem e_idx {a i : E} (w : WP (evE C ρ a h) fun x h1 => WP (evE C ρ i h1) fun y h2 => WP (idxV x y h2) fun v h3 => GC h.length v h3 Q) : WP (evE C ρ (.idx a i) h) Q := by
  rw [evE]; simp only [wp_bnd]
  exact wp_mono w fun x h1 w => wp_mono w fun y h2 w => w_gcR w
theorem oo_none {Q : Option Int → MHp → Prop} (q : Q none h) : WP (evO C ρ .none h) Q := ⟨_, _, rfl, q⟩
theorem oo_some {Q : Option Int → MHp → Prop} {e : E} (w : WP (evE C ρ e h) fun v h1 => INT v fun i => Q (some i) h1) : WP (evO C ρ (.some e) h) Q := by
  rw [evO]; simp only [wp_bnd]
  refine wp_mono w fun v h1 w => ?_
  obtain ⟨i, rfl, q⟩ := w
  exact ⟨_, _, rfl, q⟩
theorem e_slc {a : E} {lo hi : Eo} (w : WP (evE C ρ a h) fun x h1 => WP (evO C ρ lo h1) fun l h2 => WP (evO C ρ hi h2) fun u h3 => WP (slcV x l u h3) fun v h4 => GC h.length v h4 Q) : WP (evE C ρ (.slc a lo hi) h) Q := by
  rw [evE]; simp only [wp_bnd]
  exact wp_mono w fun x h1 w => wp_mono w fun y h2 w => wp_mono w fun y h2 w => w_gcR w
theorem cc_none {Q : Bool → MHp → Prop} (q : Q true h) : WP (evC C ρ .none h) Q := ⟨_, _, rfl, q⟩
theorem cc_some {Q : Bool → MHp → Prop} {e : E} (w : WP (evE C ρ e h) fun v h1 => BL v fun b => Q b h1) : WP (evC C ρ (.some e) h) Q := by
  rw [evC]; simp only [wp_bnd]
  refine wp_mono w fun v h1 w => ?_
  obtain ⟨i, rfl, q⟩ := w
  exact ⟨_, _, rfl, q⟩
/-! ### what is walked -/
theorem i_val {Q : Items → MHp → Prop} {e : E} (w : WP (evE C ρ e h) fun v h1 => WP (srcOf h.length v h1) fun s h2 => Q (.one s.1 s.2) h2) : WP (evI C ρ (.val e) h) Q := by
  rw [evI]; simp only [wp_bnd]
  exact wp_mono w fun x h1 w => wp_mono w fun y h2 w => ⟨_, _, rfl, w⟩
theorem i_rng1 {Q : Items → MHp → Prop} {a : E} (w : WP (evE C ρ a h) fun v h1 => INT v fun j => smallI j = true ∧ Q (.one (.vals (rngL 0 j.toNat)) j.toNat) h1) : WP (evI C ρ (.rng1 a) h) Q := by
  rw [evI]; simp only [wp_bnd]
  refine wp_mono w fun v h1 w => ?_
  obtain ⟨j, rfl, s, q⟩ := w
  rw [wp_congr (y := ret _ _) (by simp only [s, if_true]; rfl)]
  exact ⟨_, _, rfl, q⟩
theorem i_rng2 {Q : Items → MHp → Prop} {a b : E} (w : WP (evE C ρ a h) fun v h1 => WP (evE C ρ b h1) fun w h2 => ∃ i j : Int, v = .int i ∧ w = .int j ∧ smallI i = true ∧ smallI j = true ∧ Q (.one (.vals (rngL i (j - i).toNat)) (j - i).toNat) h2) : WP (evI C ρ (.rng2 a b) h) Q := by
  rw [evI]; simp only [wp_bnd]
  refine wp_mono w fun v h1 w => wp_mono w fun v h1 w => ?_
  obtain ⟨i, j, rfl, rfl, s1, s2, q⟩ := w
  rw [wp_congr (y := ret _ _) (by simp only [s1, s2, Bool.and_self, if_true]; rfl)]
  exact ⟨_, _, rfl, q⟩
theorem i_zip {Q : Items → MHp → Prop} {a b : E} (w : WP (evE C ρ a h) fun v h1 => WP (evE C ρ b h1) fun w h2 => ∃ xs ys, isL v = true ∧ isL w = true ∧ elems h2 v = some xs ∧ elems h2 w = some ys ∧ Q (.zip (srcL v) (srcL w) (min xs.length ys.length)) h2) : WP (evI C ρ (.zip a b) h) Q := by
  rw [evI]; simp only [wp_bnd]
  refine wp_mono w fun x h1 w => wp_mono w fun y h2 w => ?_
  obtain ⟨xs, ys, l1, l2, e1, e2, q⟩ := w
  rw [l1, l2]
  simp only [Bool.and_self, if_true, e1, e2]
  exact ⟨_, _, rfl, q⟩
theorem i_enum {Q : Items → MHp → Prop} {e : E} (w : WP (evE C ρ e h) fun v h1 => isL v = true ∧ WP (srcOf h.length v h1) fun s h2 => Q (.enum s.1 s.2) h2) : WP (evI C ρ (.enum e) h) Q := by
  rw [evI]; simp only [wp_bnd]
  refine wp_mono w fun x h1 w => ?_
  rw [if_pos w.1]; simp only [wp_bnd]
  exact wp_mono w.2 fun y h2 w => ⟨_, _, rfl, w⟩
theorem i_rev {Q : Items → MHp → Prop} {e : E} (w : WP (evE C ρ e h) fun v h1 => isL v = true ∧ WP (srcOf h.length v h1) fun s h2 => Q (.rev s.1 s.2) h2) : WP (evI C ρ (.rev e) h) Q := by
  rw [evI]; simp only [wp_bnd]
  refine wp_mono w fun x h1 w => ?_
  rw [if_pos w.1]; simp only [wp_bnd]
  exact wp_mono w.2 fun y h2 w => ⟨_, _, rfl, w⟩
/-- a comprehension over items -/
def cTurn (C : Ora) (ρ : En) (elt : E) (t : T) (c : Eo) (x : MV) (h : MHp) : O (Option MV) := match bindT t x ρ with
  | none => none
  | some ρ1 => noEx (bnd (evC C ρ1 c h) fun b h2 => if b then bnd (evE C ρ1 elt h2) fun y h3 => ret (some y) h3 else ret none h2)
theorem e_comp {elt : E} {t : T} {it : Ik} {c : Eo} (w : WP (evI C ρ it h) fun its h1 => WP (compL (cTurn C ρ elt t c) its (countI its) 0 h1) fun ys h2 => ys.length ≤ big ∧ GC h.length (.ref h2.length) (h2 ++ [.lst ys]) Q) : WP (evE C ρ (.comp elt t it c) h) Q := by
  rw [evE]; simp only [wp_bnd]
  refine wp_mono w fun its h1 w => ?_
  show WP (compL (cTurn C ρ elt t c) its (countI its) 0 h1) _
  refine wp_mono w fun ys h2 w => ?_
  rw [if_pos w.1]
  exact w_gcR ⟨_, _, rfl, w.2⟩
/-- one turn of it -/
theorem ct_turn {elt : E} {c : Eo} {t : T} {x : MV} {ρ1 : En} {Q : Option MV → MHp → Prop} (b : bindT t x ρ = some ρ1) (w : WP (evC C ρ1 c h) fun b h2 => BR (.bl b) (WP (evE C ρ1 elt h2) fun y h3 => Q (some y) h3) (Q none h2)) : WP (cTurn C ρ elt t c x h) Q := by
  unfold cTurn
  rw [b]
  simp only [wp_noEx, wp_bnd]
  refine wp_mono w fun b h2 w => ?_
  obtain ⟨_, e, t, f⟩ := w
  cases e
  cases b with
  | true =>
    simp only [if_true, wp_bnd]
    exact wp_mono (t rfl) fun y h3 q => ⟨_, _, rfl, q⟩
  | false => exact ⟨_, _, rfl, f rfl⟩
end
/-! ### statements -/
section
variable {C : Ora} {ρ : En} {h : MHp} {n : Nat} {N B : En → MHp → Prop} {K : MV → MHp → Prop}
theorem ss_nil (q : N ρ h) : WS (evSs C .nil ρ h) N B K := ⟨_, _, rfl, q⟩
theorem ss_cons {s : S} {ss : Ss} (w : WS (evS C s ρ h) (fun ρ1 h1 => WS (evSs C ss ρ1 h1) N B K) B K) : WS (evSs C (.cons s ss) ρ h) N B K := by
  unfold WS at w ⊢
  rw [evSs]; simp only [wp_bnd]
  refine wp_mono w fun f h1 w => ?_
  cases f with
  | nx ρ1 => exact w
  | bk ρ1 => exact ⟨_, _, rfl, w⟩
  | rt v => exact ⟨_, _, rfl, w⟩
theorem ws_cut {o : O F} {N' B' : En → MHp → Prop} {K' : MV → MHp → Prop} (w : WS o N' B' K') (n : ∀ ρ h, N' ρ h → N ρ h) (b : ∀ ρ h, B' ρ h → B ρ h) (k : ∀ v h, K' v h → K v h) : WS o N B K := by
  unfold WS at w ⊢
  refine wp_mono w fun f h1 w => ?_
  cases f with
  | nx ρ1 => exact n _ _ w
  | bk ρ1 => exact b _ _ w
  | rt v => exact k _ _ w
theorem ws_nx {o : O F} (N' : En → MHp → Prop) (w : WS o N' B K) (n : ∀ ρ h, N' ρ h → N ρ h) : WS o N B K := ws_cut w n (fun _ _ z => z) fun _ _ z => z
theorem s_set {i : Nat} {e : E} (w : WP (evE C ρ e h) fun v h1 => N (ρ.set i (some v)) h1) : WS (evS C (.set i e) ρ h) N B K := by
  unfold WS; rw [evS]; simp only [wp_bnd]
  exact wp_mono w fun v h1 q => ⟨_, _, rfl, q⟩
theorem s_unp {is : List Nat} {e : E} (w : WP (evE C ρ e h) fun v h1 => ∃ ρ1, bindT (.tup is) v ρ = some ρ1 ∧ N ρ1 h1) : WS (evS C (.unp is e) ρ h) N B K := by
  unfold WS; rw [evS]; simp only [wp_bnd]
  refine wp_mono w fun v h1 q => ?_
  obtain ⟨ρ1, e, q⟩ := q
  rw [e]; exact ⟨_, _, rfl, q⟩
theorem s_sub {o i e : E} (w : WP (evE C ρ e h) fun v h1 => WP (evE C ρ o h1) fun x h2 => WP (evE C ρ i h2) fun y h3 => ∃ h4, subV x y v h3 = some h4 ∧ N ρ h4) : WS (evS C (.sub o i e) ρ h) N B K := by
  unfold WS; rw [evS]; simp only [wp_bnd]
  refine wp_mono w fun v h1 w => wp_mono w fun x h1 w => wp_mono w fun y h1 w => ?_
  obtain ⟨h4, e, q⟩ := w
  rw [e]; exact ⟨_, _, rfl, q⟩
theorem s_augA {i : Nat} {e : E} {a : Int} (g : ρ[i]? = some (some (.int a))) (w : WP (evE C ρ e h) fun v h1 => INT v fun b => N (ρ.set i (some (.int (a + b)))) h1) : WS (evS C (.aug i .add e) ρ h) N B K := by
  unfold WS; rw [evS, g]; simp only [wp_bnd]
  refine wp_mono w fun v h1 w => ?_
  obtain ⟨b, rfl, q⟩ := w
  exact ⟨_, _, rfl, q⟩
theorem s_augS {i : Nat} {e : E} {a : Int} (g : ρ[i]? = some (some (.int a))) (w : WP (evE C ρ e h) fun v h1 => INT v fun b => N (ρ.set i (some (.int (a - b)))) h1) : WS (evS C (.aug i .sub e) ρ h) N B K := by
  unfold WS; rw [evS, g]; simp only [wp_bnd]
  refine wp_mono w fun v h1 w => ?_
  obtain ⟨b, rfl, q⟩ := w
  exact ⟨_, _, rfl, q⟩
theorem s_expr {e : E} (w : WP (evE C ρ e h) fun _ h1 => GC h.length .non h1 fun _ h2 => N ρ h2) : WS (evS C (.expr e) ρ h) N B K := by
  unfold WS; rw [evS]; simp only [wp_bnd]
  exact wp_mono w fun v h1 q => ⟨_, _, rfl, q⟩
theorem s_ret {e : E} (w : WP (evE C ρ e h) K) : WS (evS C (.ret e) ρ h) N B K := by
  unfold WS; rw [evS]; simp only [wp_bnd]
  exact wp_mono w fun v h1 q => ⟨_, _, rfl, q⟩
theorem s_pass (q : N ρ h) : WS (evS C .pass ρ h) N B K := ⟨_, _, by rw [evS]; rfl, q⟩
theorem s_brk (q : B ρ h) : WS (evS C .brk ρ h) N B K := ⟨_, _, by rw [evS]; rfl, q⟩
theorem s_iff {c : E} {a b : Ss} (w : WP (evE C ρ c h) fun v h1 => BR v (WS (evSs C a ρ h1) N B K) (WS (evSs C b ρ h1) N B K)) : WS (evS C (.iff c a b) ρ h) N B K := by
  unfold WS; rw [evS]; simp only [wp_bnd]
  refine wp_mono w fun v h1 w => ?_
  obtain ⟨r, rfl, t, f⟩ := w
  refine ⟨_, _, rfl, ?_⟩
  cases r with
  | true => exact t rfl
  | false => exact f rfl
theorem s_par {i j : Nat} {a b : E} (w : WP (evE C ρ a h) fun v h1 => WP (evE C ρ b h1) fun w h2 => N ((ρ.set i (some v)).set j (some w)) h2) : WS (evS C (.par i j a b) ρ h) N B K := by
  unfold WS; rw [evS]; simp only [wp_bnd]
  exact wp_mono w fun v h1 q => wp_mono q fun v h1 q => ⟨_, _, rfl, q⟩
theorem ws_tidy {kill : List Nat} {x : O F} (w : WS x (fun ρ h => GE n (killE ρ kill) h N) B K) : WS (tidy n kill x) N B K := by
  unfold WS at w ⊢
  refine wp_tidy (wp_mono w fun f h q => ?_)
  cases f with
  | nx ρ => exact q
  | bk ρ => exact q
  | rt v => exact q
/-- a walk over settled items -/
theorem s_fr {t : T} {it : Ik} {b : Ss} {kill : List Nat} (w : WP (evI C ρ it h) fun its h1 => ∃ xs k, its = .one (.vals xs) k ∧ xs.length = k ∧ ∃ Inv : List MV → En → MHp → Prop, Inv xs ρ h1 ∧
      (∀ x rest ρ h, Inv (x :: rest) ρ h → ∃ ρ1, bindT t x ρ = some ρ1 ∧ WS (evSs C b ρ1 h) (fun ρ' h' => GE h1.length (killE ρ' kill) h' (Inv rest)) N K) ∧
      (∀ ρ h, Inv [] ρ h → N ρ h)) : WS (evS C (.fr t it b kill) ρ h) N B K := by
  unfold WS; rw [evS]; simp only [wp_bnd]
  refine wp_mono w fun its h1 w => ?_
  obtain ⟨xs, k, rfl, hk, Inv, hi, st, fin⟩ := w
  refine wp_for Inv hk hi (fun x rest ρ h q => ?_) fun ρ h q => fin ρ h q
  obtain ⟨ρ1, e, q⟩ := st x rest ρ h q
  rw [e]
  refine wp_mono (ws_tidy q) fun f h' q => ?_
  cases f with
  | nx ρ => exact q
  | bk ρ => exact q
  | rt v => exact q
/-- a walk over a range -/
theorem s_frR {t : T} {it : Ik} {b : Ss} {kill : List Nat} (w : WP (evI C ρ it h) fun its h1 => ∃ lo k, its = .one (.vals (rngL lo k)) k ∧ ∃ Inv : Nat → En → MHp → Prop, Inv 0 ρ h1 ∧
      (∀ i ρ h, i < k → Inv i ρ h → ∃ ρ1, bindT t (.int (lo + i)) ρ = some ρ1 ∧ WS (evSs C b ρ1 h) (fun ρ' h' => GE h1.length (killE ρ' kill) h' (Inv (i + 1))) N K) ∧
      (∀ ρ h, Inv k ρ h → N ρ h)) : WS (evS C (.fr t it b kill) ρ h) N B K := by
  unfold WS; rw [evS]; simp only [wp_bnd]
  refine wp_mono w fun its h1 w => ?_
  obtain ⟨lo, k, rfl, Inv, hi, st, fin⟩ := w
  refine wp_rng Inv hi (fun i ρ h hl q => ?_) fun ρ h q => fin ρ h q
  obtain ⟨ρ1, e, q⟩ := st i ρ h hl q
  rw [e]
  refine wp_mono (ws_tidy q) fun f h' q => ?_
  cases f with
  | nx ρ => exact q
  | bk ρ => exact q
  | rt v => exact q
theorem wp_forG {f : MV → En → MHp → O F} {Q : F → MHp → Prop} {its : Items} (Inv : Nat → En → MHp → Prop) {k : Nat}
    (st : ∀ i ρ h, i < k → Inv i ρ h → ∃ x, itemI h i its = some x ∧ WP (f x ρ h) fun fl h' => match fl with | .nx ρ' => Inv (i + 1) ρ' h' | .bk ρ' => Q (.nx ρ') h' | .rt v => Q (.rt v) h')
    (fin : ∀ ρ h, Inv k ρ h → lenI h its = some k ∧ Q (.nx ρ) h) : ∀ (m i : Nat) (ρ : En) (h : MHp), i + m = k → Inv i ρ h → WP (forL f its m i ρ h) Q
  | 0, i, ρ, h, hk, hi => by
    have : i = k := by omega
    subst this
    obtain ⟨l, q⟩ := fin ρ h hi
    rw [forL, if_pos l]
    exact ⟨_, _, rfl, q⟩
  | m + 1, i, ρ, h, hk, hi => by
    obtain ⟨x, e, w⟩ := st i ρ h (by omega) hi
    rw [forL, e]
    simp only [wp_bnd]
    refine wp_mono w fun fl h' q => ?_
    cases fl with
    | nx ρ' => exact wp_forG Inv st fin m (i + 1) ρ' h' (by omega) q
    | bk ρ' => exact ⟨_, _, rfl, q⟩
    | rt v => exact ⟨_, _, rfl, q⟩
/-- a walk over any items, by the place -/
theorem s_frG {t : T} {it : Ik} {b : Ss} {kill : List Nat} (w : WP (evI C ρ it h) fun its h1 => ∃ Inv : Nat → En → MHp → Prop, Inv 0 ρ h1 ∧
      (∀ i ρ h, i < countI its → Inv i ρ h → ∃ x ρ1, itemI h i its = some x ∧ bindT t x ρ = some ρ1 ∧ WS (evSs C b ρ1 h) (fun ρ' h' => GE h1.length (killE ρ' kill) h' (Inv (i + 1))) N K) ∧
      (∀ ρ h, Inv (countI its) ρ h → lenI h its = some (countI its) ∧ N ρ h)) : WS (evS C (.fr t it b kill) ρ h) N B K := by
  unfold WS; rw [evS]; simp only [wp_bnd]
  refine wp_mono w fun its h1 w => ?_
  obtain ⟨Inv, hi, st, fin⟩ := w
  refine wp_forG Inv (k := countI its) (fun i ρ h hl q => ?_) (fun ρ h q => fin ρ h q) (countI its) 0 ρ h1 (by omega) hi
  obtain ⟨x, ρ1, ex, e, q⟩ := st i ρ h hl q
  refine ⟨x, ex, ?_⟩
  rw [e]
  refine wp_mono (ws_tidy q) fun f h' q => ?_
  cases f with
  | nx ρ => exact q
  | bk ρ => exact q
  | rt v => exact q
theorem whL_eq (f : En → MHp → O F) (ρ : En) (h : MHp) : whL f ρ h = match f ρ h with
  | some (.ok (.nx ρ1) h1) => whL f ρ1 h1
  | some (.ok (.bk ρ1) h1) => some (.ok (.nx ρ1) h1)
  | r => r := by
  rw [whL]
  all_goals rfl
theorem wp_whL {f : En → MHp → O F} {Q : F → MHp → Prop} (Inv : Nat → En → MHp → Prop)
    (st : ∀ m ρ h, Inv m ρ h → WP (f ρ h) fun fl h' => match fl with | .nx ρ' => ∃ m', m' < m ∧ Inv m' ρ' h' | .bk ρ' => Q (.nx ρ') h' | .rt v => Q (.rt v) h') : ∀ m ρ h, Inv m ρ h → WP (whL f ρ h) Q := by
  intro m
  induction m using Nat.strongRecOn with
  | _ m ih =>
    intro ρ h hi
    obtain ⟨fl, h', e, q⟩ := st m ρ h hi
    rw [whL_eq, e]
    cases fl with
    | nx ρ' =>
      obtain ⟨m', hm, q⟩ := q
      exact ih m' hm ρ' h' q
    | bk ρ' => exact ⟨_, _, rfl, q⟩
    | rt v => exact ⟨_, _, rfl, q⟩
/-- a while: the measure, the invariant -/
theorem s_wh {c : E} {b : Ss} {kill : List Nat} (Inv : Nat → En → MHp → Prop) (m : Nat) (hi : Inv m ρ h)
    (st : ∀ m ρ' h', Inv m ρ' h' → WP (evE C ρ' c h') fun v h1 => BR v (WS (evSs C b ρ' h1) (fun ρ2 h2 => GE h.length (killE ρ2 kill) h2 fun ρ3 h3 => ∃ m', m' < m ∧ Inv m' ρ3 h3) N K) (N ρ' h1)) : WS (evS C (.wh c b kill) ρ h) N B K := by
  unfold WS; rw [evS]
  refine wp_whL Inv (fun m ρ' h' q => ?_) m ρ h hi
  simp only [wp_bnd]
  refine wp_mono (st m ρ' h' q) fun v h1 q => ?_
  obtain ⟨r, rfl, t, f⟩ := q
  refine ⟨_, _, rfl, ?_⟩
  cases r with
  | true =>
    refine wp_mono (ws_tidy (t rfl)) fun f h' q => ?_
    cases f with
    | nx ρ => exact q
    | bk ρ => exact q
    | rt v => exact q
  | false => exact ⟨_, _, rfl, f rfl⟩
/-- a function's run -/
theorem w_run {fd : Fd} {vs : List MV} {ρ0 : En} {Q : MV → MHp → Prop} (hl : vs.length = fd.n) (e0 : env0 fd vs = ρ0)
    (w : WS (evSs C fd.body ρ0 h) (fun _ h' => GC h.length .non h' Q) (fun _ _ => False) (fun v h' => GC h.length v h' Q)) : WP (runF C fd vs h) Q := by
  subst e0
  refine wp_run hl (wp_mono w fun f h q => ?_)
  cases f with
  | nx ρ => exact q
  | bk ρ => exact q
  | rt v => exact q
end
end MP
/-! MP20: what the operators give, as wants. -/
namespace MP
section
variable {h : MHp} {Q : MV → MHp → Prop} {n : Nat}
theorem b_add {i j : Int} (q : Q (.int (i + j)) h) : WP (binV .add (.int i) (.int j) h) Q := ⟨_, _, rfl, q⟩
theorem b_sub {i j : Int} (q : Q (.int (i - j)) h) : WP (binV .sub (.int i) (.int j) h) Q := ⟨_, _, rfl, q⟩
theorem mulOk_l {i j : Int} (h : i.natAbs < 2 ^ 64) : mulOk i j = true := by simp [mulOk, h]
theorem mulOk_r {i j : Int} (h : j.natAbs < 2 ^ 64) : mulOk i j = true := by simp [mulOk, h]
theorem b_mul {i j : Int} (o : mulOk i j = true) (q : Q (.int (i * j)) h) : WP (binV .mul (.int i) (.int j) h) Q := ⟨_, _, by simp only [binV]; rw [if_pos o]; rfl, q⟩
theorem b_div {i j : Int} (o : 0 < j) (l : j.natAbs.log2 < 9000) (q : Q (.int (i / j)) h) : WP (binV .fdiv (.int i) (.int j) h) Q := ⟨_, _, by simp only [binV]; rw [if_pos ⟨o, l⟩]; rfl, q⟩
theorem b_mod {i j : Int} (o : 0 < j) (q : Q (.int (i % j)) h) : WP (binV .mod (.int i) (.int j) h) Q := ⟨_, _, by simp only [binV]; rw [if_pos o]; rfl, q⟩
theorem b_pow {i j : Int} (o : 0 ≤ j ∧ j ≤ 1000000 ∧ i.natAbs < 2 ^ 64) (q : Q (.int (i ^ j.toNat)) h) : WP (binV .pow (.int i) (.int j) h) Q := ⟨_, _, by simp only [binV]; rw [if_pos o]; rfl, q⟩
theorem b_str {s t : List Nat} (o : s.length + t.length ≤ big) (q : Q (.str (s ++ t)) h) : WP (binV .add (.str s) (.str t) h) Q := ⟨_, _, by simp only [binV]; rw [if_pos o]; rfl, q⟩
theorem b_tup {s t : List MV} (o : s.length + t.length ≤ big) (q : Q (.tup (s ++ t)) h) : WP (binV .add (.tup s) (.tup t) h) Q := ⟨_, _, by simp only [binV]; rw [if_pos o]; rfl, q⟩
theorem b_rep {a : Nat} {xs : List MV} {k : Int} (g : h[a]? = some (.lst xs)) (o : 0 ≤ k ∧ xs.length * k.toNat ≤ big ∧ k ≤ 16777216) (q : Q (.ref h.length) (h ++ [.lst (List.replicate k.toNat xs).flatten])) : WP (binV .mul (.ref a) (.int k) h) Q := ⟨_, _, by simp only [binV, elems, g]; rw [if_pos o]; rfl, q⟩
/-! comparisons -/
theorem q_int {i j : Int} : cmpV .eq (.int i) (.int j) h = some (decide (i = j)) := rfl
theorem q_str {i j : List Nat} : cmpV .eq (.str i) (.str j) h = some (decide (i = j)) := rfl
theorem n_int {i j : Int} : cmpV .ne (.int i) (.int j) h = some (!decide (i = j)) := rfl
theorem n_str {i j : List Nat} : cmpV .ne (.str i) (.str j) h = some (!decide (i = j)) := rfl
theorem q_bl {i j : Bool} : cmpV .eq (.bl i) (.bl j) h = some (decide (i = j)) := rfl
theorem n_bl {i j : Bool} : cmpV .ne (.bl i) (.bl j) h = some (!decide (i = j)) := rfl
theorem q_lt {i j : Int} : cmpV .lt (.int i) (.int j) h = some (decide (i < j)) := rfl
theorem q_le {i j : Int} : cmpV .le (.int i) (.int j) h = some (decide (i ≤ j)) := rfl
theorem q_gt {i j : Int} : cmpV .gt (.int i) (.int j) h = some (decide (j < i)) := rfl
theorem q_ge {i j : Int} : cmpV .ge (.int i) (.int j) h = some (decide (j ≤ i)) := rfl
theorem q_isNN : cmpV .is_ .non .non h = some true := rfl
theorem q_isIN {i : Int} : cmpV .is_ (.int i) .non h = some false := rfl
theorem q_isnNN : cmpV .isnot .non .non h = some false := rfl
theorem q_isnIN {i : Int} : cmpV .isnot (.int i) .non h = some true := rfl
theorem q_isBB {a b : Bool} : cmpV .is_ (.bl a) (.bl b) h = some (decide (a = b)) := rfl
theorem q_isnBB {a b : Bool} : cmpV .isnot (.bl a) (.bl b) h = some (!decide (a = b)) := rfl
/-! built-ins -/
theorem k_lenS {s : List Nat} (o : s.length ≤ big) (q : Q (.int s.length) h) : WP (biV .len [.str s] h) Q := ⟨_, _, by simp only [biV]; rw [if_pos o]; rfl, q⟩
theorem k_lenT {s : List MV} (q : Q (.int s.length) h) : WP (biV .len [.tup s] h) Q := ⟨_, _, rfl, q⟩
theorem k_lenR {s : List MV} (q : Q (.int s.length) h) : WP (biV .len [.rol s] h) Q := ⟨_, _, rfl, q⟩
theorem k_lenO {a : Nat} {s : List MV} (g : h[a]? = some (.lst s)) (q : Q (.int s.length) h) : WP (biV .len [.ref a] h) Q := ⟨_, _, by simp only [biV, seqs, elems, g]; rfl, q⟩
theorem k_abs {i : Int} (q : Q (.int (if i < 0 then -i else i)) h) : WP (biV .abs [.int i] h) Q := ⟨_, _, rfl, q⟩
theorem k_min {i j : Int} (q : Q (.int (if j < i then j else i)) h) : WP (biV .min [.int i, .int j] h) Q := ⟨_, _, rfl, q⟩
theorem k_max {i j : Int} (q : Q (.int (if j > i then j else i)) h) : WP (biV .max [.int i, .int j] h) Q := ⟨_, _, rfl, q⟩
theorem k_listR {s : List MV} (q : Q (.ref h.length) (h ++ [.lst s])) : WP (biV .list [.rol s] h) Q := ⟨_, _, rfl, q⟩
theorem k_listT {s : List MV} (q : Q (.ref h.length) (h ++ [.lst s])) : WP (biV .list [.tup s] h) Q := ⟨_, _, rfl, q⟩
theorem k_listO {a : Nat} {s : List MV} (g : h[a]? = some (.lst s)) (q : Q (.ref h.length) (h ++ [.lst s])) : WP (biV .list [.ref a] h) Q := ⟨_, _, by simp only [biV, seqs, elems, g]; rfl, q⟩
theorem k_tupleO {a : Nat} {s : List MV} (g : h[a]? = some (.lst s)) (q : Q (.tup s) h) : WP (biV .tuple [.ref a] h) Q := ⟨_, _, by simp only [biV, seqs, elems, g]; rfl, q⟩
theorem intsL_map : ∀ ns : List Int, intsL (ns.map .int) = some ns
  | [] => rfl
  | n :: ns => by rw [List.map_cons, intsL, intsL_map ns]; rfl
theorem k_sumR {ns : List Int} (q : Q (.int ns.sum) h) : WP (biV .sum [.rol (ns.map .int)] h) Q := ⟨_, _, by simp only [biV, elems, Option.bind_some, intsL_map]; rfl, q⟩
theorem pairs_map : ∀ ps : List (Int × Int), pairs (ps.map ofP) = some ps
  | [] => rfl
  | p :: ps => by rw [List.map_cons, ofP, pairs, pairs_map ps]; rfl
theorem k_sortP {a : Nat} {ps : List (Int × Int)} (g : h[a]? = some (.lst (ps.map ofP))) (q : Q (.ref h.length) (h ++ [.lst ((sortP ps).map ofP)])) : WP (biV .sorted [.ref a] h) Q := by
  refine ⟨_, _, ?_, q⟩
  simp only [biV, elems, g]
  cases ps with
  | nil => rfl
  | cons p ps =>
    have : intsL ((p :: ps).map ofP) = none := rfl
    rw [this, pairs_map]; rfl
theorem k_intB {b : Bool} (q : Q (.int (if b then 1 else 0)) h) : WP (biV .int [.bl b] h) Q := ⟨_, _, rfl, q⟩
/-! subscripts -/
theorem i_str {s : List Nat} {k : Int} {c : Nat} (o : s.length ≤ big) (g : atI s k = some c) (q : Q (.str [c]) h) : WP (idxV (.str s) (.int k) h) Q := ⟨_, _, by simp only [idxV]; rw [if_pos o, g]; rfl, q⟩
theorem i_tup {s : List MV} {k : Int} {c : MV} (g : atI s k = some c) (q : Q c h) : WP (idxV (.tup s) (.int k) h) Q := ⟨_, _, by simp only [idxV, seqs, g]; rfl, q⟩
theorem i_rol {s : List MV} {k : Int} {c : MV} (g : atI s k = some c) (q : Q c h) : WP (idxV (.rol s) (.int k) h) Q := ⟨_, _, by simp only [idxV, seqs, elems, g]; rfl, q⟩
theorem i_obj {a : Nat} {s : List MV} {k : Int} {c : MV} (o : h[a]? = some (.lst s)) (g : atI s k = some c) (q : Q c h) : WP (idxV (.ref a) (.int k) h) Q := ⟨_, _, by simp only [idxV, seqs, elems, o, g]; rfl, q⟩
theorem u_obj {a : Nat} {s : List MV} {k : Int} {v : MV} {j : Nat} {N : MHp → Prop} (o : h[a]? = some (.lst s)) (g : ixN s.length k = some j) (q : N (h.set a (.lst (s.set j v)))) : ∃ h4, subV (.ref a) (.int k) v h = some h4 ∧ N h4 := ⟨_, by simp only [subV, o, g], q⟩
/-! methods -/
theorem r_app {a : Nat} {s : List MV} (o : h[a]? = some (.lst s)) : rcvOk .append (.ref a) h = true := by simp [rcvOk, o]
theorem r_pop {a : Nat} {s : List MV} (o : h[a]? = some (.lst s)) : rcvOk .pop (.ref a) h = true := by simp [rcvOk, o]
theorem r_ext {a : Nat} {s : List MV} (o : h[a]? = some (.lst s)) : rcvOk .extend (.ref a) h = true := by simp [rcvOk, o]
theorem r_rev {a : Nat} {s : List MV} (o : h[a]? = some (.lst s)) : rcvOk .reverse (.ref a) h = true := by simp [rcvOk, o]
theorem r_join {s : List Nat} : rcvOk .join (.str s) h = true := rfl
theorem m_app {a : Nat} {s : List MV} {v : MV} (o : h[a]? = some (.lst s)) (b : s.length < big) (q : Q .non (h.set a (.lst (s ++ [v])))) : WP (mtV .append (.ref a) [v] h) Q := ⟨_, _, by simp only [mtV, o]; rw [if_pos b]; rfl, q⟩
theorem m_rev {a : Nat} {s : List MV} (o : h[a]? = some (.lst s)) (q : Q .non (h.set a (.lst s.reverse))) : WP (mtV .reverse (.ref a) [] h) Q := ⟨_, _, by simp only [mtV, o]; rfl, q⟩
theorem m_pop {a : Nat} {s : List MV} {v : MV} (o : h[a]? = some (.lst s)) (l : s.getLast? = some v) (q : Q v (h.set a (.lst s.dropLast))) : WP (mtV .pop (.ref a) [] h) Q := ⟨_, _, by simp only [mtV, o, l]; rfl, q⟩
theorem m_joinO {a : Nat} {s : List Nat} {xs : List MV} {ss : List (List Nat)} (o : h[a]? = some (.lst xs)) (l : strsL xs = some ss) (b : (ss.map List.length).sum + ss.length * s.length ≤ big) (q : Q (.str (joinL s ss)) h) : WP (mtV .join (.str s) [.ref a] h) Q := ⟨_, _, by simp only [mtV, seqs, elems, o, Option.bind_some, l]; rw [if_pos b]; rfl, q⟩
/-! what is walked -/
theorem z_tup {m : Nat} {xs : List MV} {Q : Src × Nat → MHp → Prop} (q : Q (.vals xs, xs.length) h) : WP (srcOf m (.tup xs) h) Q := ⟨_, _, rfl, q⟩
theorem z_rol {m : Nat} {xs : List MV} {Q : Src × Nat → MHp → Prop} (q : Q (.vals xs, xs.length) h) : WP (srcOf m (.rol xs) h) Q := ⟨_, _, rfl, q⟩
theorem z_str {m : Nat} {s : List Nat} {Q : Src × Nat → MHp → Prop} (o : s.length ≤ big) (q : Q (.vals (s.map fun c => .str [c]), s.length) h) : WP (srcOf m (.str s) h) Q := ⟨_, _, by simp only [srcOf]; rw [if_pos o]; rfl, q⟩
theorem z_old {m : Nat} {a : Nat} {xs : List MV} {Q : Src × Nat → MHp → Prop} (o : h[a]? = some (.lst xs)) (l : a < m) (q : Q (.obj a, xs.length) h) : WP (srcOf m (.ref a) h) Q := ⟨_, _, by simp only [srcOf, elems, o]; rw [if_neg (by omega)]; rfl, q⟩
theorem z_new {m : Nat} {a : Nat} {xs : List MV} {h0 : MHp} {Q : Src × Nat → MHp → Prop} (o : h[a]? = some (.lst xs)) (l : m ≤ a) (lo : loL m xs = true) (e : h.take m = h0) (w : loH m h0 = true) (q : Q (.vals xs, xs.length) h0) : WP (srcOf m (.ref a) h) Q := ⟨_, _, by simp only [srcOf, elems, o]; rw [if_pos (by rw [e]; exact ⟨l, lo, w⟩), e]; rfl, q⟩
end
/-! places -/
theorem ixN_nat {n j : Nat} (h : j < n) : ixN n (j : Int) = some j := by
  unfold ixN; rw [if_pos (by omega), if_pos (by omega)]; simp
theorem ixN_of {n : Nat} {i : Int} (h0 : 0 ≤ i) (h : i < n) : ixN n i = some i.toNat := by
  unfold ixN; rw [if_pos h0, if_pos h]
theorem atI_of {α : Type} {xs : List α} {i : Int} (h0 : 0 ≤ i) (h : i < xs.length) : atI xs i = some (xs[i.toNat]'(by omega)) := by
  unfold atI; rw [ixN_of h0 h]; simp
theorem atI_get {α : Type} {xs : List α} {i : Int} {x : α} (h0 : 0 ≤ i) (g : xs[i.toNat]? = some x) : atI xs i = some x := by
  have := (List.getElem?_eq_some_iff.mp g)
  obtain ⟨l, e⟩ := this
  rw [atI_of h0 (by omega)]
  rw [e]
theorem log2_lt {m : Int} (h0 : 0 < m) (h : m ≤ 10 ^ 120) : m.natAbs.log2 < 9000 := by
  have h1 : m.natAbs < 2 ^ 400 := by
    have : (10 : Int) ^ 120 < 2 ^ 400 := by decide +kernel
    omega
  have := (Nat.log2_lt (by omega : m.natAbs ≠ 0)).mpr h1
  omega
theorem lo_str {n : Nat} (ss : List (List Nat)) : loL n (ss.map .str) = true := loL_map _ _ (fun _ => rfl) _
theorem lo_int {n : Nat} (ss : List Int) : loL n (ss.map .int) = true := loL_map _ _ (fun _ => rfl) _
/-- the stream of drawn numbers: its object, the script's cells -/
def potO (i r s : Int) : MO := .lst [.ref 1, .int i, .int r, .int s]
def cellsO (ns : List Int) : MO := .lst (ns.map .int)
theorem loPot {n : Nat} {i r s : Int} : (potO i r s).lo n = decide (1 < n) := by simp [potO, MO.lo, loL, MV.lo]
theorem loCells {n : Nat} {ns : List Int} : (cellsO ns).lo n = true := lo_int ns
theorem get_new {h : MHp} {o : MO} {n : Nat} (e : h.length = n) : (h ++ [o])[n]? = some o := by rw [← e]; simp
theorem get_app {t u : MHp} {p : Nat} {o : MO} (g : t[p]? = some o) : (t ++ u)[p]? = some o := by
  rw [List.getElem?_append_left]
  · exact g
  · exact (List.getElem?_eq_some_iff.mp g).1
theorem get_0 {t u : MHp} {o : MO} : (t ++ o :: u)[t.length]? = some o := by simp
theorem get_1 {t u : MHp} {o o2 : MO} : (t ++ o :: o2 :: u)[t.length + 1]? = some o2 := by
  rw [List.getElem?_append_right (by omega)]; simp
theorem get_2 {t u : MHp} {o o2 o3 : MO} : (t ++ o :: o2 :: o3 :: u)[t.length + 2]? = some o3 := by
  rw [List.getElem?_append_right (by omega)]; simp
theorem set_0 {t u : MHp} {o n : MO} : (t ++ o :: u).set t.length n = t ++ n :: u := by
  rw [List.set_append_right _ _ (by omega)]; simp
theorem set_1 {t u : MHp} {o o2 n : MO} : (t ++ o :: o2 :: u).set (t.length + 1) n = t ++ o :: n :: u := by
  rw [List.set_append_right _ _ (by omega)]; simp
theorem set_2 {t u : MHp} {o o2 o3 n : MO} : (t ++ o :: o2 :: o3 :: u).set (t.length + 2) n = t ++ o :: o2 :: n :: u := by
  rw [List.set_append_right _ _ (by omega)]; simp
structure PQ where
  i : Int
  r : Int
  s : Int
structure PQ.Ok (q : PQ) : Prop where
  i : 0 ≤ q.i
  r : 0 ≤ q.r
  s : 0 ≤ q.s
def ph (ns : List Int) (q : PQ) (t : MHp) : MHp := potO q.i q.r q.s :: cellsO ns :: t
/-- a tail whose references are low -/
def Tl (t : MHp) : Prop := loH (t.length + 2) t = true
theorem tl_nil : Tl [] := rfl
theorem tl_app {t : MHp} {o : MO} (h : Tl t) (k : o.lo (t.length + 2) = true) : Tl (t ++ [o]) := by
  unfold Tl at h ⊢
  rw [loH_append, loH_mono (n := t.length + 2) (by simp) _ h, loH, loO_mono (n := t.length + 2) (by simp) o k]; rfl
theorem tl_app2 {t : MHp} {o o2 : MO} (h : Tl t) (k : o.lo (t.length + 2) = true) (k2 : o2.lo (t.length + 2) = true) : Tl (t ++ [o, o2]) := by
  have := tl_app (tl_app h k) (loO_mono (n := t.length + 2) (by simp) o2 k2)
  simpa using this
theorem ph_len {ns : List Int} {q : PQ} {t : MHp} : (ph ns q t).length = t.length + 2 := rfl
theorem ph_app {ns : List Int} {q : PQ} {t u : MHp} : ph ns q t ++ u = ph ns q (t ++ u) := rfl
theorem ph_get {ns : List Int} {q : PQ} {t : MHp} {p : Nat} : (ph ns q t)[p + 2]? = t[p]? := rfl
theorem ph_set {ns : List Int} {q : PQ} {t : MHp} {p : Nat} {o : MO} : (ph ns q t).set (p + 2) o = ph ns q (t.set p o) := rfl
theorem lo_ph {ns : List Int} {q : PQ} {t : MHp} {n : Nat} (h : Tl t) (k : t.length + 2 ≤ n) : loH n (ph ns q t) = true := by
  unfold ph
  rw [loH, loH, loPot, loCells, loH_mono k t h]
  simp; omega
theorem lo_phL {ns : List Int} {q q' : PQ} {t : MHp} (h : Tl t) : loH (ph ns q' t).length (ph ns q t) = true := lo_ph h (Nat.le_refl _)
def chM (c : Nat) : MV := .str [c]
theorem q_ch {h : MHp} {a b : Nat} : cmpV .eq (chM a) (chM b) h = some (decide (a = b)) := by simp [cmpV, eqV, chM]
theorem n_ch {h : MHp} {a b : Nat} : cmpV .ne (chM a) (chM b) h = some (!decide (a = b)) := by simp [cmpV, eqV, chM]
theorem lo_pairs {n : Nat} (ps : List (Int × Int)) : loL n (ps.map ofP) = true := loL_map _ _ (fun _ => rfl) _
theorem lo_ch {n : Nat} (ss : List Nat) : loL n (ss.map chM) = true := loL_map _ _ (fun _ => rfl) _
/-- a told row: letters, a price -/
def rowM (r : List Nat × Int) : MV := .tup (r.1.map chM ++ [.int r.2])
theorem lo_row (n : Nat) (r : List Nat × Int) : (rowM r).lo n = true := by
  rw [rowM, MV.lo, loL_append, lo_ch]; rfl
theorem lo_rows {n : Nat} (rs : List (List Nat × Int)) : loL n (rs.map rowM) = true := loL_map _ _ (lo_row n) _
structure Book where
  gap : Int
  hoops : List (List Nat × Int)
  nests : List (List Nat × Int)
  ends : List Int
  bends : List Int
  f1 : Int
  f2 : Int
  f3 : Int
def bookM (B : Book) : MV := .tup [.int B.gap, .tup (B.hoops.map rowM), .tup (B.nests.map rowM), .tup (B.ends.map .int), .tup (B.bends.map .int), .tup [.int B.f1, .int B.f2, .int B.f3]]
theorem lo_tup {n : Nat} {xs : List MV} (h : loL n xs = true) : MV.lo n (.tup xs) = true := by rw [MV.lo]; exact h
theorem lo_book {n : Nat} (B : Book) : (bookM B).lo n = true := by
  simp [bookM, MV.lo, loL, lo_rows, lo_int]
theorem cutL_map {α β : Type} (f : α → β) (xs : List α) (lo hi : Option Int) : cutL (xs.map f) lo hi = (cutL xs lo hi).map f := by
  simp [cutL]
theorem cutL_take {α : Type} (xs : List α) {k : Int} (h : 0 ≤ k) : cutL xs none (some k) = xs.take k.toNat := by
  unfold cutL sIx
  simp only [List.drop_zero, Nat.sub_zero]
  rw [if_neg (by omega)]
  rcases Nat.le_total k.toNat xs.length with z | z
  · rw [Nat.min_eq_left z]
  · rw [Nat.min_eq_right z, List.take_of_length_le (Nat.le_refl _), List.take_of_length_le z]
theorem sl_tup {h : MHp} {Q : MV → MHp → Prop} {xs : List MV} {lo hi : Option Int} (q : Q (.tup (cutL xs lo hi)) h) : WP (slcV (.tup xs) lo hi h) Q := ⟨_, _, rfl, q⟩
theorem sl_row {h : MHp} {Q : MV → MHp → Prop} {r : List Nat × Int} {k : Int} (h0 : 0 ≤ k) (e : r.1.length = k.toNat) (q : Q (.tup (r.1.map chM)) h) : WP (slcV (rowM r) none (some k) h) Q := by
  unfold rowM
  refine sl_tup ?_
  rw [cutL_take _ h0, List.take_left' (by rw [List.length_map]; exact e)]
  exact q
section
variable {h : MHp} {Q : MV → MHp → Prop} {B : Book}
theorem i_bk0 (q : Q (.int B.gap) h) : WP (idxV (bookM B) (.int 0) h) Q := ⟨_, _, rfl, q⟩
theorem i_bk1 (q : Q (.tup (B.hoops.map rowM)) h) : WP (idxV (bookM B) (.int 1) h) Q := ⟨_, _, rfl, q⟩
theorem i_bk2 (q : Q (.tup (B.nests.map rowM)) h) : WP (idxV (bookM B) (.int 2) h) Q := ⟨_, _, rfl, q⟩
theorem i_bk3 (q : Q (.tup (B.ends.map .int)) h) : WP (idxV (bookM B) (.int 3) h) Q := ⟨_, _, rfl, q⟩
theorem i_bk4 (q : Q (.tup (B.bends.map .int)) h) : WP (idxV (bookM B) (.int 4) h) Q := ⟨_, _, rfl, q⟩
theorem i_bk5 (q : Q (.tup [.int B.f1, .int B.f2, .int B.f3]) h) : WP (idxV (bookM B) (.int 5) h) Q := ⟨_, _, rfl, q⟩
end
theorem at_ {Sp : (List MV → MHp → O MV) → Prop} {fs : List (String × Fd)} {g : String} {fd : Fd} {rest : List (String × Fd)} (e : findF fs g = some (fd, rest)) (s : Sp (runF (callT rest) fd)) : Sp (callT fs g) := by
  rw [callT_find e]; exact s
theorem plain_of {fs : List (String × Fd)} {fd : Fd} {rest : List (String × Fd)} {v : MV} (e : findF fs "law" = some (fd, rest)) (w : WP (runF (callT rest) fd [v] []) fun v _ => v = .bl true) : ∃ h', callT fs "law" [v] [] = some (.ok (.bl true) h') := by
  rw [callT_find e]
  obtain ⟨v, h, e, rfl⟩ := w
  exact ⟨h, e⟩
end MP
local macro_rules | `(tactic| sizeOf_list_dec) => `(tactic| first | rfl | assumption | exact MP.lo_book _ | exact MP.lo_tup (MP.lo_rows _) | exact MP.lo_tup (MP.lo_int _) | exact MP.lo_phL ‹_› | (refine MP.lo_ph ‹_› ?_; (first | exact Nat.le_refl _ | (simp [MP.ph_len]; done) | (simp [MP.ph_len]; omega))) | exact MP.loL_map _ _ (fun _ => rfl) _ | (simp [MP.loL, MP.MV.lo, MP.loH, MP.MO.lo, MP.loL_append, MP.loH_append, MP.loL_map, MP.lo_str, MP.lo_int, MP.loPot, MP.loCells, *]; done) | (simp [MP.loL, MP.MV.lo, MP.loH, MP.MO.lo, MP.loL_append, MP.loH_append, MP.loL_map, MP.lo_str, MP.lo_int, MP.loPot, MP.loCells, *]; omega))
local macro_rules | `(tactic| array_mem_dec) => `(tactic| first | with_reducible rfl | assumption | (with_reducible refine MP.get_new ?_; array_mem_dec) | (first | exact MP.get_0 | exact MP.get_1 | exact MP.get_2) | (rw [MP.ph_get]; first | assumption | exact MP.get_0 | exact MP.get_1 | exact MP.get_2 | exact MP.get_app ‹_›) | rfl | (simp only [List.length_append, List.length_cons, List.length_nil, List.length_set, List.length_map, MP.ph_len]; done) | (simp only [List.length_append, List.length_cons, List.length_nil, List.length_set, List.length_map, MP.ph_len]; omega))
local macro_rules | `(tactic| array_get_dec) => `(tactic| first
  | with_reducible refine MP.ss_cons ?_
  | with_reducible exact MP.ss_nil ‹_›
  | with_reducible refine MP.ss_nil ?_
  | with_reducible refine MP.s_set ?_
  | with_reducible refine MP.s_expr ?_
  | with_reducible refine MP.s_ret ?_
  | with_reducible refine MP.s_sub ?_
  | with_reducible refine MP.s_par ?_
  | with_reducible refine MP.s_pass ?_
  | with_reducible refine MP.s_brk ?_
  | ((with_reducible apply MP.s_augA); next => rfl)
  | ((with_reducible apply MP.s_augS); next => rfl)
  | ((with_reducible apply MP.e_var); next => rfl)
  | with_reducible refine MP.e_int ?_
  | with_reducible refine MP.e_idx ?_
  | with_reducible refine MP.e_bin ?_
  | with_reducible refine MP.e_cmp ?_
  | with_reducible refine MP.e_and ?_
  | with_reducible refine MP.a_two ?_
  | with_reducible refine MP.a_one ?_
  | with_reducible refine MP.e_or ?_
  | with_reducible refine MP.o_two ?_
  | with_reducible refine MP.o_one ?_
  | with_reducible refine MP.e_call ?_
  | with_reducible refine MP.es_cons ?_
  | with_reducible refine MP.es_nil ?_
  | with_reducible refine MP.e_bi ?_
  | with_reducible refine MP.e_str ?_
  | with_reducible refine MP.e_bl ?_
  | with_reducible refine MP.e_non ?_
  | with_reducible refine MP.e_glb ?_
  | with_reducible refine MP.e_meth ?_
  | with_reducible refine MP.e_tup ?_
  | with_reducible refine MP.e_lst ?_
  | with_reducible refine MP.e_not ?_
  | with_reducible refine MP.e_neg ?_
  | with_reducible refine MP.e_isi ?_
  | with_reducible refine MP.e_ite ?_
  | with_reducible refine MP.e_chn ?_
  | with_reducible refine MP.c_one ?_
  | with_reducible refine MP.c_more ?_
  | with_reducible refine MP.e_slc ?_
  | with_reducible refine MP.oo_none ?_
  | with_reducible refine MP.oo_some ?_
  | with_reducible refine MP.cc_none ?_
  | with_reducible refine MP.cc_some ?_
  | ((with_reducible apply MP.ct_turn); next => rfl)
  | with_reducible refine MP.e_comp ?_
  | with_reducible refine MP.i_val ?_
  | with_reducible refine MP.i_rng1 ?_
  | with_reducible refine MP.i_rng2 ?_
  | with_reducible refine MP.i_enum ?_
  | with_reducible refine MP.i_zip ?_
  | with_reducible refine MP.i_rev ?_
  | with_reducible refine MP.nt_t ?_
  | with_reducible refine MP.nt_f ?_
  | with_reducible refine MP.nt_n ?_
  | with_reducible refine MP.nt_b ?_
  | with_reducible refine MP.is_ii ?_
  | with_reducible refine MP.is_ib ?_
  | with_reducible refine MP.is_il ?_
  | with_reducible refine MP.is_it ?_
  | with_reducible refine MP.is_is ?_
  | with_reducible refine MP.is_bb ?_
  | with_reducible refine MP.is_bi ?_
  | with_reducible refine MP.is_bt ?_
  | with_reducible refine MP.is_bl ?_
  | with_reducible refine MP.is_bs ?_
  | with_reducible refine MP.is_ni ?_
  | with_reducible refine MP.is_nb ?_
  | with_reducible refine MP.is_nt ?_
  | with_reducible refine MP.is_nl ?_
  | with_reducible refine MP.is_ns ?_
  | with_reducible refine MP.is_tt ?_
  | with_reducible refine MP.is_ti ?_
  | with_reducible refine MP.is_tb ?_
  | with_reducible refine MP.is_tl ?_
  | with_reducible refine MP.is_ts ?_
  | with_reducible refine MP.is_ss ?_
  | with_reducible refine MP.is_si ?_
  | with_reducible refine MP.is_sb ?_
  | with_reducible refine MP.is_st ?_
  | with_reducible refine MP.is_sl ?_
  | ((with_reducible apply MP.is_rl); next => array_mem_dec)
  | ((with_reducible apply MP.is_rt); next => array_mem_dec)
  | ((with_reducible apply MP.is_ri); next => array_mem_dec)
  | ((with_reducible apply MP.is_rb); next => array_mem_dec)
  | with_reducible refine MP.br_t ?_
  | with_reducible refine MP.br_f ?_
  | ((with_reducible apply MP.br_dt); next => assumption)
  | ((with_reducible apply MP.br_df); next => assumption)
  | ((with_reducible apply MP.br_nt); next => assumption)
  | ((with_reducible apply MP.br_nf); next => assumption)
  | with_reducible refine MP.bl_of ?_
  | with_reducible refine MP.int_of ?_
  | with_reducible refine MP.cm_of MP.q_int ?_
  | with_reducible refine MP.cm_of MP.q_ch ?_
  | with_reducible refine MP.cm_of MP.n_ch ?_
  | with_reducible refine MP.cm_of MP.q_str ?_
  | with_reducible refine MP.cm_of MP.n_int ?_
  | with_reducible refine MP.cm_of MP.n_str ?_
  | with_reducible refine MP.cm_of MP.q_bl ?_
  | with_reducible refine MP.cm_of MP.n_bl ?_
  | with_reducible refine MP.cm_of MP.q_lt ?_
  | with_reducible refine MP.cm_of MP.q_le ?_
  | with_reducible refine MP.cm_of MP.q_gt ?_
  | with_reducible refine MP.cm_of MP.q_ge ?_
  | with_reducible refine MP.cm_of MP.q_isNN ?_
  | with_reducible refine MP.cm_of MP.q_isIN ?_
  | with_reducible refine MP.cm_of MP.q_isnNN ?_
  | with_reducible refine MP.cm_of MP.q_isnIN ?_
  | with_reducible refine MP.cm_of MP.q_isBB ?_
  | with_reducible refine MP.cm_of MP.q_isnBB ?_
  | with_reducible refine MP.b_add ?_
  | with_reducible refine MP.b_sub ?_
  | ((with_reducible apply MP.b_tup); next => first | assumption | (simp [MP.big]; done) | (simp [MP.big]; omega))
  | ((with_reducible apply MP.b_str); next => first | assumption | (simp [MP.big]; done) | (simp [MP.big]; omega))
  | ((with_reducible apply MP.b_mul); next => first | assumption | exact MP.mulOk_l (by decide) | exact MP.mulOk_r (by decide) | (refine MP.mulOk_l ?_; omega) | (refine MP.mulOk_r ?_; omega))
  | ((with_reducible apply MP.b_mod); next => first | assumption | decide | omega)
  | ((with_reducible apply MP.b_div); (next => first | assumption | decide | omega); next => first | assumption | decide | (refine MP.log2_lt ?_ ?_ <;> omega))
  | ((with_reducible apply MP.b_pow); next => decide)
  | ((with_reducible apply MP.k_lenO); next => array_mem_dec)
  | with_reducible refine MP.i_bk0 ?_
  | with_reducible refine MP.i_bk1 ?_
  | with_reducible refine MP.i_bk2 ?_
  | with_reducible refine MP.i_bk3 ?_
  | with_reducible refine MP.i_bk4 ?_
  | with_reducible refine MP.i_bk5 ?_
  | with_reducible refine MP.z_tup ?_
  | with_reducible refine MP.z_rol ?_
  | with_reducible refine MP.k_lenT ?_
  | with_reducible refine MP.k_lenR ?_
  | with_reducible refine MP.k_abs ?_
  | with_reducible refine MP.k_min ?_
  | with_reducible refine MP.k_max ?_
  | with_reducible refine MP.k_intB ?_
  | with_reducible refine MP.k_sumR ?_
  | with_reducible refine MP.k_listR ?_
  | with_reducible refine MP.k_listT ?_
  | ((with_reducible apply MP.k_tupleO); next => array_mem_dec)
  | ((with_reducible apply MP.k_sortP); next => array_mem_dec)
  | ((with_reducible apply MP.i_obj); (next => array_mem_dec); next => first | rfl | assumption)
  | ((with_reducible apply MP.i_rol); next => first | assumption | rfl)
  | ((with_reducible apply MP.i_tup); next => first | rfl | assumption)
  | ((with_reducible apply MP.u_obj); (next => array_mem_dec); next => first | rfl | assumption)
  | ((with_reducible refine And.intro ?_ ?_); next => first | exact Nat.le_of_ble_eq_true rfl | with_reducible exact MP.r_join | ((with_reducible apply MP.r_app); array_mem_dec) | ((with_reducible apply MP.r_pop); array_mem_dec) | ((with_reducible apply MP.r_rev); array_mem_dec) | ((with_reducible apply MP.r_ext); array_mem_dec))
  | ((with_reducible apply MP.m_app); (next => array_mem_dec); next => first | assumption | decide | (unfold MP.big; omega))
  | ((with_reducible apply MP.m_rev); next => array_mem_dec)
  | ((with_reducible apply MP.g_id); next => array_mem_dec)
  | ((with_reducible apply MP.g_one); (next => array_mem_dec); (next => array_mem_dec); (next => sizeOf_list_dec); next => sizeOf_list_dec)
  | ((with_reducible apply MP.g_last); (next => array_mem_dec); (next => array_mem_dec); (next => sizeOf_list_dec); next => sizeOf_list_dec)
  | ((with_reducible apply MP.g_lo); (next => array_mem_dec); (next => sizeOf_list_dec); next => sizeOf_list_dec)
  | ((with_reducible apply MP.g_lo2); (next => array_mem_dec); (next => sizeOf_list_dec); next => sizeOf_list_dec)
  | ((with_reducible apply MP.ge_lo); (next => rfl); (next => array_mem_dec); (next => sizeOf_list_dec); next => sizeOf_list_dec)
  | ((with_reducible apply MP.ge_id); (next => rfl); next => array_mem_dec))
namespace SH
open MP
def law_stream : Fd := ⟨1, 1, (.cons (.ret (.lst (.cons (.bi .list (.cons (.var 0) .nil)) (.cons (.int 0) (.cons (.int 0) (.cons (.bin .mod (.bi .sum (.cons (.var 0) .nil)) (.int 2147483647)) .nil)))))) .nil)⟩
def law_draw : Fd := ⟨2, 5, (.cons (.iff (.and (.cons (.cmp .eq (.idx (.var 0) (.int 2)) (.int 0)) (.cons (.cmp .ge (.idx (.var 0) (.int 1)) (.bi .len (.cons (.idx (.var 0) (.int 0)) .nil))) .nil))) (.cons (.sub (.var 0) (.int 1) (.bin .add (.idx (.var 0) (.int 1)) (.int 1))) (.cons (.set 3 (.bin .mod (.bin .mul (.bin .add (.bin .add (.idx (.var 0) (.int 3)) (.bin .mul (.int 1000003) (.idx (.var 0) (.int 1)))) (.int 76543)) (.int 48271)) (.int 2147483647))) (.cons (.set 3 (.bin .mod (.bin .mul (.var 3) (.var 3)) (.int 2147483647))) (.cons (.ret (.bin .mod (.bin .fdiv (.bin .mod (.bin .mul (.bin .add (.var 3) (.bin .mul (.int 40692) (.idx (.var 0) (.int 1)))) (.int 69621)) (.int 2147483629)) (.int 8)) (.var 1))) .nil)))) .nil) (.cons (.iff (.cmp .eq (.idx (.var 0) (.int 2)) (.int 0)) (.cons (.sub (.var 0) (.int 1) (.bin .add (.idx (.var 0) (.int 1)) (.int 1))) (.cons (.set 4 (.idx (.idx (.var 0) (.int 0)) (.bin .sub (.idx (.var 0) (.int 1)) (.int 1)))) (.cons (.iff (.cmp .lt (.bi .abs (.cons (.var 4) .nil)) (.bin .pow (.int 10) (.int 18))) (.cons (.ret (.bin .mod (.var 4) (.var 1))) .nil) .nil) (.cons (.sub (.var 0) (.int 2) (.bi .abs (.cons (.var 4) .nil))) .nil)))) .nil) (.cons (.set 2 (.bin .mod (.idx (.var 0) (.int 2)) (.var 1))) (.cons (.sub (.var 0) (.int 2) (.bin .fdiv (.idx (.var 0) (.int 2)) (.var 1))) (.cons (.ret (.var 2)) .nil)))))⟩
def law_rows_b1 : Ss := (.cons (.set 7 (.bi .tuple (.cons (.comp (.idx (.var 1) (.call "_law_draw" (.cons (.var 0) (.cons (.bi .len (.cons (.var 1) .nil)) .nil)))) (.name 9) (.rng1 (.var 2)) .none) .nil))) (.cons (.set 8 (.bin .sub (.call "_law_draw" (.cons (.var 0) (.cons (.int 19) .nil))) (.int 9))) (.cons (.iff (.cmp .notin (.var 7) (.var 5)) (.cons (.expr (.meth .append (.var 5) (.cons (.var 7) .nil))) (.cons (.expr (.meth .append (.var 4) (.cons (.bin .add (.var 7) (.tup (.cons (.var 8) .nil))) .nil))) .nil)) .nil) .nil)))
def law_rows : Fd := ⟨4, 10, (.cons (.set 4 (.lst .nil)) (.cons (.set 5 (.lst .nil)) (.cons (.fr (.name 6) (.rng1 (.call "_law_draw" (.cons (.var 0) (.cons (.bin .add (.var 3) (.int 1)) .nil)))) law_rows_b1 [6, 7, 8]) (.cons (.ret (.bi .tuple (.cons (.var 4) .nil))) .nil))))⟩
def law_prices_v2 : Fd := ⟨1, 2, (.cons (.ret (.bi .tuple (.cons (.comp (.bin .sub (.call "_law_draw" (.cons (.var 0) (.cons (.int 19) .nil))) (.int 9)) (.name 1) (.rng1 (.bin .add (.int 1) (.call "_law_draw" (.cons (.var 0) (.cons (.int 8) .nil))))) .none) .nil))) .nil)⟩
def law_book_v2 : Fd := ⟨2, 9, (.cons (.set 2 (.bin .fdiv (.call "_law_draw" (.cons (.var 0) (.cons (.int 4) .nil))) (.int 2))) (.cons (.iff (.cmp .eq (.call "_law_draw" (.cons (.var 0) (.cons (.int 4) .nil))) (.int 3)) (.cons (.set 2 (.call "_law_draw" (.cons (.var 0) (.cons (.int 7) .nil)))) .nil) .nil) (.cons (.set 3 (.int 12)) (.cons (.iff (.cmp .eq (.call "_law_draw" (.cons (.var 0) (.cons (.int 8) .nil))) (.int 7)) (.cons (.set 3 (.int 40)) .nil) .nil) (.cons (.set 4 (.call "_law_rows" (.cons (.var 0) (.cons (.var 1) (.cons (.int 2) (.cons (.var 3) .nil)))))) (.cons (.set 5 (.call "_law_rows" (.cons (.var 0) (.cons (.var 1) (.cons (.int 4) (.cons (.bin .fdiv (.var 3) (.int 2)) .nil)))))) (.cons (.set 6 (.call "_law_prices" (.cons (.var 0) .nil))) (.cons (.set 7 (.call "_law_prices" (.cons (.var 0) .nil))) (.cons (.set 8 (.tup (.cons (.bin .sub (.call "_law_draw" (.cons (.var 0) (.cons (.int 19) .nil))) (.int 9)) (.cons (.bin .sub (.call "_law_draw" (.cons (.var 0) (.cons (.int 19) .nil))) (.int 9)) (.cons (.bin .sub (.call "_law_draw" (.cons (.var 0) (.cons (.int 5) .nil))) (.int 2)) .nil))))) (.cons (.ret (.tup (.cons (.var 2) (.cons (.var 4) (.cons (.var 5) (.cons (.var 6) (.cons (.var 7) (.cons (.var 8) .nil)))))))) .nil))))))))))⟩
def law_pool : Fd := ⟨1, 4, (.cons (.set 1 (.str [97, 98, 99, 100, 101, 102, 103, 104, 105, 106, 107, 108, 109, 110, 111, 112, 113, 114, 115, 116, 117, 118, 119, 120, 121, 122])) (.cons (.set 2 (.bin .add (.int 1) (.call "_law_draw" (.cons (.var 0) (.cons (.int 5) .nil))))) (.cons (.iff (.cmp .eq (.var 2) (.int 5)) (.cons (.set 2 (.bin .add (.int 1) (.call "_law_draw" (.cons (.var 0) (.cons (.int 8) .nil))))) .nil) .nil) (.cons (.ret (.comp (.idx (.var 1) (.call "_law_draw" (.cons (.var 0) (.cons (.int 26) .nil)))) (.name 3) (.rng1 (.var 2)) .none)) .nil))))⟩
def own_price_b1 : Ss := (.cons (.iff (.and (.cons (.cmp .eq (.var 3) (.var 1)) (.cons (.cmp .eq (.var 4) (.var 2)) .nil))) (.cons (.ret (.var 5)) .nil) .nil) .nil)
def own_price : Fd := ⟨3, 6, (.cons (.fr (.tup [3, 4, 5]) (.val (.idx (.var 0) (.int 1))) own_price_b1 [3, 4, 5]) (.cons (.ret .non) .nil))⟩
def law_cord_v4 : Fd := ⟨2, 4, (.cons (.set 2 (.call "_law_draw" (.cons (.var 0) (.cons (.int 11) .nil)))) (.cons (.iff (.cmp .eq (.call "_law_draw" (.cons (.var 0) (.cons (.int 6) .nil))) (.int 5)) (.cons (.set 2 (.bin .add (.var 2) (.call "_law_draw" (.cons (.var 0) (.cons (.int 11) .nil))))) .nil) .nil) (.cons (.ret (.meth .join (.str []) (.cons (.comp (.idx (.var 1) (.call "_law_draw" (.cons (.var 0) (.cons (.bi .len (.cons (.var 1) .nil)) .nil)))) (.name 3) (.rng1 (.var 2)) .none) .nil))) .nil)))⟩
def may_hoop : Fd := ⟨4, 4, (.cons (.iff (.or (.cons (.not (.chn (.int 0) (.more .le (.var 2) (.more .lt (.var 3) (.one .lt (.bi .len (.cons (.var 1) .nil))))))) (.cons (.cmp .lt (.bin .sub (.bin .sub (.var 3) (.var 2)) (.int 1)) (.idx (.var 0) (.int 0))) .nil))) (.cons (.ret (.bl false)) .nil) .nil) (.cons (.ret (.cmp .isnot (.call "own_price" (.cons (.var 0) (.cons (.idx (.var 1) (.var 2)) (.cons (.idx (.var 1) (.var 3)) .nil)))) .non)) .nil))⟩
def all_pairs_b2 : Ss := (.cons (.iff (.call "may_hoop" (.cons (.var 0) (.cons (.var 1) (.cons (.var 3) (.cons (.var 4) .nil))))) (.cons (.expr (.meth .append (.var 2) (.cons (.tup (.cons (.var 3) (.cons (.var 4) .nil))) .nil))) .nil) .nil) .nil)
def all_pairs_b1 : Ss := (.cons (.fr (.name 4) (.rng2 (.bin .add (.var 3) (.int 1)) (.bi .len (.cons (.var 1) .nil))) all_pairs_b2 [4]) .nil)
def all_pairs : Fd := ⟨2, 5, (.cons (.set 2 (.lst .nil)) (.cons (.fr (.name 3) (.rng1 (.bi .len (.cons (.var 1) .nil))) all_pairs_b1 [3, 4]) (.cons (.ret (.var 2)) .nil)))⟩
def law_may_v2 : Fd := ⟨4, 5, (.cons (.iff (.or (.cons (.cmp .lt (.var 2) (.int 0)) (.cons (.cmp .ge (.var 3) (.bi .len (.cons (.var 1) .nil))) (.cons (.cmp .ge (.var 2) (.var 3)) (.cons (.cmp .lt (.bin .sub (.bin .sub (.var 3) (.var 2)) (.int 1)) (.idx (.var 0) (.int 0))) .nil))))) (.cons (.ret (.bl false)) .nil) .nil) (.cons (.ret (.cmp .ne (.comp (.var 4) (.name 4) (.val (.idx (.var 0) (.int 1))) (.some (.and (.cons (.cmp .eq (.idx (.var 4) (.int 0)) (.idx (.var 1) (.var 2))) (.cons (.cmp .eq (.idx (.var 4) (.int 1)) (.idx (.var 1) (.var 3))) .nil))))) (.lst .nil))) .nil))⟩
def law_pairs_b1 : Ss := (.cons (.set 5 (.call "_law_draw" (.cons (.var 0) (.cons (.int 3) .nil)))) (.cons (.iff (.cmp .eq (.var 5) (.int 1)) (.cons (.expr (.meth .append (.var 2) (.cons (.var 4) .nil))) .nil) .nil) (.cons (.iff (.and (.cons (.cmp .eq (.var 5) (.int 2)) (.cons (.cmp .ne (.var 2) (.lst .nil)) .nil))) (.cons (.expr (.meth .append (.var 3) (.cons (.tup (.cons (.meth .pop (.var 2) .nil) (.cons (.var 4) .nil))) .nil))) .nil) .nil) .nil)))
def law_pairs : Fd := ⟨2, 6, (.cons (.set 2 (.lst .nil)) (.cons (.set 3 (.lst .nil)) (.cons (.fr (.name 4) (.rng1 (.var 1)) law_pairs_b1 [4, 5]) (.cons (.ret (.bi .tuple (.cons (.bi .sorted (.cons (.var 3) .nil)) .nil))) .nil))))⟩
def row_of_b1 : Ss := (.cons (.sub (.var 2) (.var 3) (.var 4)) (.cons (.sub (.var 2) (.var 4) (.var 3)) .nil))
def row_of : Fd := ⟨2, 5, (.cons (.set 2 (.bin .mul (.lst (.cons (.neg (.int 1)) .nil)) (.var 0))) (.cons (.fr (.tup [3, 4]) (.val (.var 1)) row_of_b1 [3, 4]) (.cons (.ret (.var 2)) .nil)))⟩
def show_shape_b1 : Ss := (.cons (.iff (.cmp .lt (.var 4) (.int 0)) (.cons (.expr (.meth .append (.var 2) (.cons (.str [46]) .nil))) .nil) (.cons (.iff (.cmp .lt (.var 3) (.var 4)) (.cons (.expr (.meth .append (.var 2) (.cons (.str [40]) .nil))) .nil) (.cons (.expr (.meth .append (.var 2) (.cons (.str [41]) .nil))) .nil)) .nil)) .nil)
def show_shape : Fd := ⟨2, 5, (.cons (.set 2 (.lst .nil)) (.cons (.fr (.tup [3, 4]) (.enum (.call "row_of" (.cons (.var 0) (.cons (.var 1) .nil)))) show_shape_b1 [3, 4]) (.cons (.ret (.meth .join (.str []) (.cons (.var 2) .nil))) .nil)))⟩
end SH
namespace Gk06
open MP
def L_alike_b1 : Ss := (.cons (.iff (.or (.cons (.not (.isi (.var 2) "int")) (.cons (.isi (.var 2) "bool") .nil))) (.cons (.ret (.bl false)) .nil) .nil) .nil)
def L_alike : Fd := ⟨2, 3, (.cons (.iff (.or (.cons (.not (.isi (.var 0) "list")) (.cons (.cmp .ne (.var 0) (.var 1)) .nil))) (.cons (.ret (.bl false)) .nil) .nil) (.cons (.fr (.name 2) (.val (.var 0)) L_alike_b1 [2]) (.cons (.ret (.bl true)) .nil)))⟩
def F_law_b2 : Ss := (.cons (.iff (.cmp .eq (.var 11) (.var 6)) (.cons (.set 9 (.var 12)) (.cons (.set 10 (.str [40])) .nil)) .nil) (.cons (.iff (.cmp .eq (.var 12) (.var 6)) (.cons (.set 9 (.var 11)) (.cons (.set 10 (.str [41])) .nil)) .nil) .nil))
def F_law_b1 : Ss := (.cons (.set 9 (.neg (.int 1))) (.cons (.set 10 (.str [46])) (.cons (.fr (.tup [11, 12]) (.val (.var 3)) F_law_b2 [11, 12]) (.cons (.expr (.meth .append (.var 4) (.cons (.var 9) .nil))) (.cons (.set 5 (.bin .add (.var 5) (.var 10))) .nil)))))
def F_law : Fd := ⟨1, 13, (.cons (.set 1 (.call "_law_stream" (.cons (.var 0) .nil))) (.cons (.set 2 (.call "_law_draw" (.cons (.var 1) (.cons (.int 41) .nil)))) (.cons (.set 3 (.call "_law_pairs" (.cons (.var 1) (.cons (.var 2) .nil)))) (.cons (.set 4 (.lst .nil)) (.cons (.set 5 (.str [])) (.cons (.fr (.name 6) (.rng1 (.var 2)) F_law_b1 [6, 9, 10, 11, 12]) (.cons (.set 7 (.call "row_of" (.cons (.var 2) (.cons (.var 3) .nil)))) (.cons (.iff (.not (.call "_law_alike" (.cons (.var 7) (.cons (.var 4) .nil)))) (.cons (.ret (.bl false)) .nil) .nil) (.cons (.expr (.meth .append (.var 7) (.cons (.int 5) .nil))) (.cons (.expr (.meth .reverse (.var 7) .nil)) (.cons (.set 8 (.call "show_shape" (.cons (.var 2) (.cons (.var 3) .nil)))) (.cons (.ret (.and (.cons (.call "_law_alike" (.cons (.call "row_of" (.cons (.var 2) (.cons (.var 3) .nil))) (.cons (.var 4) .nil))) (.cons (.isi (.var 8) "str") (.cons (.cmp .eq (.var 8) (.var 5)) .nil))))) .nil))))))))))))⟩
def fs7 : List (String × Fd) := []
def fs6 : List (String × Fd) := ("_law_stream", SH.law_stream) :: fs7
def fs5 : List (String × Fd) := ("_law_draw", SH.law_draw) :: fs6
def fs4 : List (String × Fd) := ("_law_pairs", SH.law_pairs) :: fs5
def fs3 : List (String × Fd) := ("row_of", SH.row_of) :: fs4
def fs2 : List (String × Fd) := ("show_shape", SH.show_shape) :: fs3
def fs1 : List (String × Fd) := ("_law_alike", Gk06.L_alike) :: fs2
def fs0 : List (String × Fd) := ("law", Gk06.F_law) :: fs1
abbrev fs : List (String × Fd) := fs0
end Gk06
/-! S1: the stream of drawn numbers. -/
namespace MP
def DrawSp (ns : List Int) (D : List MV → MHp → O MV) : Prop := ∀ (q : PQ) (t : MHp) (m : Int) (Q : MV → MHp → Prop), q.Ok → 0 < m → m ≤ 10 ^ 120 →
  (∀ d q', q'.Ok → 0 ≤ d → d < m → Q (.int d) (ph ns q' t)) → WP (D [.ref 0, .int m] (ph ns q t)) Q
theorem draw_ok {C : Ora} {ns : List Int} : DrawSp ns (runF C SH.law_draw) := by
  intro q t m Q ok hm hb k
  obtain ⟨i, r, s⟩ := q
  obtain ⟨oi, or, os⟩ := ok
  simp only at oi or os
  have hl := log2_lt hm hb
  show WP (runF C SH.law_draw [.ref 0, .int m] (potO i r s :: cellsO ns :: t)) Q
  refine w_run (ρ0 := [some (.ref 0), some (.int m), none, none, none]) rfl rfl ?_
  unfold SH.law_draw
  dsimp only
  have key : ∀ x : Int, 0 ≤ x % m ∧ x % m < m := fun x => ⟨Int.emod_nonneg _ (by omega), Int.emod_lt_of_pos _ hm⟩
  refine ss_cons ?_
  refine ws_nx (fun ρ h => ρ = [some (.ref 0), some (.int m), none, none, none] ∧ h = potO i r s :: cellsO ns :: t ∧ (r = 0 → i < ns.length)) ?_ ?_
  · refine s_iff ?_
    repeat array_get_dec
    refine br_d (fun hr => ?_) (fun hr => ?_)
    · repeat array_get_dec
      refine br_d (fun hi => ?_) (fun hi => ?_)
      · repeat array_get_dec
        exact k _ ⟨i + 1, r, s⟩ ⟨by show (0 : Int) ≤ i + 1; omega, or, os⟩ (key _).1 (key _).2
      · repeat array_get_dec
        exact ⟨rfl, rfl, fun _ => by simpa using hi⟩
    · repeat array_get_dec
      exact ⟨rfl, rfl, fun z => absurd z hr⟩
  · rintro _ _ ⟨rfl, rfl, hlt⟩
    refine ss_cons ?_
    refine ws_nx (fun ρ h => ∃ c i r, ρ = [some (.ref 0), some (.int m), none, none, c] ∧ h = potO i r s :: cellsO ns :: t ∧ 0 ≤ i ∧ 0 ≤ r) ?_ ?_
    · refine s_iff ?_
      repeat array_get_dec
      refine br_d (fun hr => ?_) (fun hr => ?_)
      · have hi := hlt hr
        have g : atI (ns.map MV.int) (i + 1 - 1) = some (.int (ns[i.toNat]'(by omega))) := by
          refine atI_get (by omega) ?_
          rw [show i + 1 - 1 = i by omega, List.getElem?_map, List.getElem?_eq_getElem (by omega)]; rfl
        generalize ns[i.toNat]'(by omega) = c at g
        repeat array_get_dec
        refine s_iff ?_
        repeat array_get_dec
        refine br_d (fun hc => ?_) (fun hc => ?_)
        · repeat array_get_dec
          exact k _ ⟨i + 1, r, s⟩ ⟨by show (0 : Int) ≤ i + 1; omega, or, os⟩ (key _).1 (key _).2
        · repeat array_get_dec
          exact ⟨_, i + 1, _, rfl, rfl, by omega, by split <;> omega⟩
      · repeat array_get_dec
        exact ⟨_, _, _, rfl, rfl, oi, or⟩
    · rintro _ _ ⟨c, i, r, rfl, rfl, oi, or⟩
      repeat array_get_dec
      exact k _ ⟨i, r / m, s⟩ ⟨oi, Int.ediv_nonneg or (by omega), os⟩ (key _).1 (key _).2
theorem refsL_ints : ∀ ns : List Int, refsL (ns.map .int) = []
  | [] => rfl
  | n :: ns => by rw [List.map_cons, refsL, refsL_ints ns]; rfl
theorem renL_ints (f : Nat → Nat) : ∀ ns : List Int, renL f (ns.map .int) = ns.map .int
  | [] => rfl
  | n :: ns => by rw [List.map_cons, renL, renL_ints f ns]; rfl
theorem gc_stream (ns : List Int) (s : Int) : gc 0 (.ref 1) [.lst (ns.map .int), .lst [.ref 0, .int 0, .int 0, .int s]] = (.ref 0, [potO 0 0 s, cellsO ns]) := by
  have e : plan 0 [.ref 1] [.lst (ns.map .int), .lst [.ref 0, .int 0, .int 0, .int s]] = some ([1, 0], [.lst [.ref 0, .int 0, .int 0, .int s], .lst (ns.map .int)]) := by
    have r1 : refsAt [.lst (ns.map .int), .lst [.ref 0, .int 0, .int 0, .int s]] 1 = [0] := rfl
    have r0 : refsAt [.lst (ns.map .int), .lst [.ref 0, .int 0, .int 0, .int s]] 0 = [] := refsL_ints ns
    have e2 : reach 0 [.lst (ns.map .int), .lst [.ref 0, .int 0, .int 0, .int s]] 6 (news 0 (refsL [.ref 1]) []) = [1, 0] := by
      show reach 0 _ 6 [1] = _
      rw [reach]
      simp only [List.flatMap_cons, List.flatMap_nil, r1, List.append_nil]
      show reach 0 _ 5 [1, 0] = _
      rw [reach]
      simp only [List.flatMap_cons, List.flatMap_nil, r1, r0, List.append_nil]
      rfl
    rw [plan, if_pos (show loH 0 (List.take 0 _) = true from rfl)]
    simp only [e2]
    simp only [objs, List.getElem?_cons_succ, List.getElem?_cons_zero]
    simp [shut, MO.refs, refsL_ints, refsL, MV.refs]
  unfold gc
  rw [if_neg (by simp), e]
  simp [MV.ren, MO.ren, renL, renL_ints, rn, potO, cellsO]
  rfl
theorem gc_pot (ns : List Int) (q : PQ) : gc 0 (.ref 0) (ph ns q []) = (.ref 0, ph ns q []) := by
  obtain ⟨i, r, s⟩ := q
  show gc 0 (.ref 0) [.lst [.ref 1, .int i, .int r, .int s], .lst (ns.map .int)] = (.ref 0, [.lst [.ref 1, .int i, .int r, .int s], .lst (ns.map .int)])
  have e : plan 0 [.ref 0] [.lst [.ref 1, .int i, .int r, .int s], .lst (ns.map .int)] = some ([0, 1], [.lst [.ref 1, .int i, .int r, .int s], .lst (ns.map .int)]) := by
    have r1 : refsAt [.lst [.ref 1, .int i, .int r, .int s], .lst (ns.map .int)] 0 = [1] := rfl
    have r0 : refsAt [.lst [.ref 1, .int i, .int r, .int s], .lst (ns.map .int)] 1 = [] := refsL_ints ns
    have e2 : reach 0 [.lst [.ref 1, .int i, .int r, .int s], .lst (ns.map .int)] 6 (news 0 (refsL [.ref 0]) []) = [0, 1] := by
      show reach 0 _ 6 [0] = _
      rw [reach]
      simp only [List.flatMap_cons, List.flatMap_nil, r1, List.append_nil]
      show reach 0 _ 5 [0, 1] = _
      rw [reach]
      simp only [List.flatMap_cons, List.flatMap_nil, r1, r0, List.append_nil]
      rfl
    rw [plan, if_pos (show loH 0 (List.take 0 _) = true from rfl)]
    simp only [e2]
    simp only [objs, List.getElem?_cons_succ, List.getElem?_cons_zero]
    simp [shut, MO.refs, refsL_ints, refsL, MV.refs]
  unfold gc
  rw [if_neg (by simp), e]
  simp [MV.ren, MO.ren, renL, renL_ints, rn]
  rfl
theorem g_pot {ns : List Int} {q : PQ} {Q : MV → MHp → Prop} (k : Q (.ref 0) (ph ns q [])) : GC 0 (.ref 0) (ph ns q []) Q := by
  unfold GC; rw [gc_pot]; exact k
def StreamSp (ns : List Int) (T : List MV → MHp → O MV) : Prop := ∀ Q : MV → MHp → Prop, (∀ q : PQ, q.Ok → Q (.ref 0) (ph ns q [])) → WP (T [.rol (ns.map .int)] []) Q
theorem stream_ok {C : Ora} {ns : List Int} : StreamSp ns (runF C SH.law_stream) := by
  intro Q k
  refine w_run (ρ0 := [some (.rol (ns.map .int))]) rfl rfl ?_
  unfold SH.law_stream
  dsimp only
  repeat array_get_dec
  show GC 0 (.ref 1) [.lst (ns.map .int), .lst [.ref 0, .int 0, .int 0, .int _]] Q
  unfold GC
  rw [gc_stream]
  exact k ⟨0, 0, _⟩ ⟨Int.le_refl _, Int.le_refl _, Int.emod_nonneg _ (by decide)⟩
end MP
/-! S2: values with a Lean type: equal, within. -/
namespace MP
open PySem (PyData)
structure Cod (α : Type) [DecidableEq α] where
  enc : α → MV
  dat : α → PyData
  d : Nat
  ok : α → Prop
  toD : ∀ h a n, d ≤ n → MP.toD h n (enc a) = some (dat a)
  lay : ∀ a, ok a → (dat a).canLay0 = true
  dep : ∀ a, (dat a).depth ≤ d
  eqv : ∀ a b, (dat a).eqv (dat b) = decide (a = b)
  lo : ∀ n a, (enc a).lo n = true
def cInt : Cod Int where
  enc := .int
  dat := .int
  d := 0
  ok _ := True
  toD h a n _ := by unfold MP.toD; rfl
  lay _ _ := rfl
  dep _ := Nat.le_refl _
  eqv a b := by simp only [PyData.eqv]; rw [Bool.eq_iff_iff, beq_iff_eq, decide_eq_true_eq]
  lo _ _ := rfl
def cStr : Cod (List Nat) where
  enc := .str
  dat s := .str ⟨s.toArray⟩
  d := 0
  ok s := ∀ c ∈ s, c < 0x110000
  toD h a n _ := by unfold MP.toD; rfl
  lay s h := by
    show PyData.strOk ⟨s.toArray⟩ = true
    unfold PyData.strOk
    rw [List.all_toArray, List.all_eq_true]
    intro c hc
    exact decide_eq_true (h c hc)
  dep _ := Nat.le_refl _
  eqv a b := by
    simp only [PyData.eqv]
    rw [Bool.eq_iff_iff, beq_iff_eq, decide_eq_true_eq]
    constructor
    · intro e
      have := congrArg (fun s : PySem.Str => s.cps.toList) e
      simpa using this
    · intro e; rw [e]
  lo _ _ := rfl
def cCh : Cod Nat where
  enc := chM
  dat c := .str ⟨[c].toArray⟩
  d := 0
  ok c := c < 0x110000
  toD h a n _ := by unfold chM MP.toD; rfl
  lay s h := cStr.lay [s] fun c hc => by rw [List.mem_singleton.mp hc]; exact h
  dep _ := Nat.le_refl _
  eqv a b := by
    refine (cStr.eqv [a] [b]).trans ?_
    exact decide_eq_decide.mpr (by simp)
  lo _ _ := rfl
def cBool : Cod Bool where
  enc := .bl
  dat := .bool
  d := 0
  ok _ := True
  toD h a n _ := by unfold MP.toD; rfl
  lay _ _ := rfl
  dep _ := Nat.le_refl _
  eqv a b := by simp only [PyData.eqv]; rw [Bool.eq_iff_iff, beq_iff_eq, decide_eq_true_eq]
  lo _ _ := rfl
section
variable {α β : Type} [DecidableEq α] [DecidableEq β]
theorem mapO_cod (c : Cod α) (h : MHp) {n : Nat} (k : c.d ≤ n) : ∀ xs : List α, mapO (MP.toD h n) (xs.map c.enc) = some (xs.map c.dat)
  | [] => rfl
  | x :: xs => by rw [List.map_cons, mapO, c.toD h x n k, mapO_cod c h k xs]; rfl
theorem layAll_cod (c : Cod α) : ∀ xs : List α, (∀ x ∈ xs, c.ok x) → PyData.canLayAll0 (xs.map c.dat) = true
  | [], _ => rfl
  | x :: xs, h => by rw [List.map_cons, PyData.canLayAll0, c.lay x (h x List.mem_cons_self), layAll_cod c xs fun y hy => h y (List.mem_cons_of_mem _ hy)]; rfl
theorem depAll_cod (c : Cod α) : ∀ xs : List α, PyData.depthAll (xs.map c.dat) ≤ c.d
  | [] => Nat.zero_le _
  | x :: xs => by
    rw [List.map_cons, PyData.depthAll]
    exact Nat.max_le.mpr ⟨c.dep x, depAll_cod c xs⟩
theorem eqvAll_cod (c : Cod α) : ∀ xs ys : List α, PyData.eqvAll (xs.map c.dat) (ys.map c.dat) = decide (xs = ys)
  | [], [] => by simp [PyData.eqvAll]
  | [], _ :: _ => by simp [PyData.eqvAll]
  | _ :: _, [] => by simp [PyData.eqvAll]
  | x :: xs, y :: ys => by
    rw [List.map_cons, List.map_cons, PyData.eqvAll, c.eqv, eqvAll_cod c xs ys, ← Bool.decide_and]
    exact decide_eq_decide.mpr (by rw [List.cons.injEq])
def cTup (c : Cod α) : Cod (List α) where
  enc xs := .tup (xs.map c.enc)
  dat xs := .tuple (xs.map c.dat)
  d := c.d + 1
  ok xs := ∀ x ∈ xs, c.ok x
  toD h a n k := by
    match n, k with
    | n + 1, k => rw [MP.toD, mapO_cod c h (by omega)]; rfl
  lay xs h := layAll_cod c xs h
  dep xs := by
    show PyData.depthAll _ + 1 ≤ _
    have := depAll_cod c xs
    omega
  eqv a b := by rw [PyData.eqv]; exact eqvAll_cod c a b
  lo n a := by rw [MV.lo]; exact loL_map _ _ (c.lo n) _
def cPair (a : Cod α) (b : Cod β) : Cod (α × β) where
  enc p := .tup [a.enc p.1, b.enc p.2]
  dat p := .tuple [a.dat p.1, b.dat p.2]
  d := max a.d b.d + 1
  ok p := a.ok p.1 ∧ b.ok p.2
  toD h p n k := by
    match n, k with
    | n + 1, k => rw [MP.toD]; simp only [mapO, a.toD h p.1 n (by omega), b.toD h p.2 n (by omega)]; rfl
  lay p h := by
    show PyData.canLayAll0 [_, _] = true
    simp only [PyData.canLayAll0, a.lay _ h.1, b.lay _ h.2, Bool.and_self]
  dep p := by
    show PyData.depthAll [_, _] + 1 ≤ _
    simp only [PyData.depthAll]
    have := a.dep p.1
    have := b.dep p.2
    omega
  eqv p q := by
    simp only [PyData.eqv, PyData.eqvAll]
    rw [a.eqv, b.eqv, Bool.and_true, ← Bool.decide_and]
    exact decide_eq_decide.mpr (by rw [Prod.ext_iff])
  lo n p := by simp [MV.lo, loL, a.lo, b.lo]
theorem okD_cod (c : Cod α) {x : α} (o : c.ok x) (k : c.d ≤ 60) : okD (c.dat x) = true := by
  unfold okD PySem.SeqAt.shaped
  rw [c.lay x o, Bool.true_and, decide_eq_true_eq]
  have := c.dep x
  omega
theorem eqV_gen {h : MHp} {d e : PyData} : ∀ {x y : MV}, MP.toD h 20 x = some d → MP.toD h 20 y = some e → okD d = true → okD e = true → eqV h x y = some (d.eqv e) := by
  intro x y hx hy kd ke
  have g : (match MP.toD h 20 x, MP.toD h 20 y with
    | some d, some e => if okD d && okD e then some (d.eqv e) else none
    | _, _ => none) = some (d.eqv e) := by rw [hx, hy]; simp [kd, ke]
  cases x <;> cases y <;> first | exact g | skip
  all_goals (unfold MP.toD at hx hy; cases hx; cases hy)
  all_goals first
    | (simp [eqV, PyData.eqv]; done)
    | (show some (decide (_ = _)) = _; first | exact congrArg some (cBool.eqv _ _).symm | exact congrArg some (cInt.eqv _ _).symm | exact congrArg some (cStr.eqv _ _).symm)
theorem eqV_cod (c : Cod α) {h : MHp} {x y : α} (ox : c.ok x) (oy : c.ok y) (k : c.d ≤ 20) : eqV h (c.enc x) (c.enc y) = some (decide (x = y)) := by
  rw [eqV_gen (c.toD h x 20 k) (c.toD h y 20 k) (okD_cod c ox (by omega)) (okD_cod c oy (by omega)), c.eqv]
theorem toD_lst (c : Cod α) {h : MHp} {n : Nat} {xs : List α} (g : h[n]? = some (.lst (xs.map c.enc))) (k : c.d < 20) : MP.toD h 20 (.ref n) = some (.list (xs.map c.dat)) := by
  unfold MP.toD
  simp only [elems, g]
  rw [mapO_cod (n := 19) c h (by omega)]; rfl
theorem toD_rol (c : Cod α) {h : MHp} {xs : List α} (k : c.d < 20) : MP.toD h 20 (.rol (xs.map c.enc)) = some (.list (xs.map c.dat)) := by
  unfold MP.toD
  rw [mapO_cod (n := 19) c h (by omega)]; rfl
theorem okD_lst (c : Cod α) {xs : List α} (o : ∀ x ∈ xs, c.ok x) (k : c.d < 20) : okD (.list (xs.map c.dat)) = true := by
  unfold okD PySem.SeqAt.shaped
  have := depAll_cod c xs
  rw [show PyData.canLay0 (.list (xs.map c.dat)) = PyData.canLayAll0 (xs.map c.dat) from rfl, layAll_cod c xs o, Bool.true_and, decide_eq_true_eq]
  show PyData.depthAll _ + 1 ≤ 64
  omega
theorem eqV_lst (c : Cod α) {h : MHp} {n m : Nat} {xs ys : List α} (gx : h[n]? = some (.lst (xs.map c.enc))) (gy : h[m]? = some (.lst (ys.map c.enc))) (ox : ∀ x ∈ xs, c.ok x) (oy : ∀ x ∈ ys, c.ok x) (k : c.d < 20) : eqV h (.ref n) (.ref m) = some (decide (xs = ys)) := by
  rw [eqV_gen (toD_lst c gx k) (toD_lst c gy k) (okD_lst c ox k) (okD_lst c oy k)]
  rw [PyData.eqv, eqvAll_cod]
theorem q_cod (c : Cod α) {h : MHp} {x y : α} (ox : c.ok x) (oy : c.ok y) (k : c.d ≤ 20) : cmpV .eq (c.enc x) (c.enc y) h = some (decide (x = y)) := eqV_cod c ox oy k
theorem n_cod (c : Cod α) {h : MHp} {x y : α} (ox : c.ok x) (oy : c.ok y) (k : c.d ≤ 20) : cmpV .ne (c.enc x) (c.enc y) h = some (!decide (x = y)) := by simp only [cmpV, eqV_cod c ox oy k]; rfl
theorem q_lst (c : Cod α) {h : MHp} {n m : Nat} {xs ys : List α} (gx : h[n]? = some (.lst (xs.map c.enc))) (gy : h[m]? = some (.lst (ys.map c.enc))) (ox : ∀ x ∈ xs, c.ok x) (oy : ∀ x ∈ ys, c.ok x) (k : c.d < 20) : cmpV .eq (.ref n) (.ref m) h = some (decide (xs = ys)) := eqV_lst c gx gy ox oy k
theorem n_lst (c : Cod α) {h : MHp} {n m : Nat} {xs ys : List α} (gx : h[n]? = some (.lst (xs.map c.enc))) (gy : h[m]? = some (.lst (ys.map c.enc))) (ox : ∀ x ∈ xs, c.ok x) (oy : ∀ x ∈ ys, c.ok x) (k : c.d < 20) : cmpV .ne (.ref n) (.ref m) h = some (!decide (xs = ys)) := by simp only [cmpV, eqV_lst c gx gy ox oy k]; rfl
theorem any_cod (c : Cod α) (x : α) : ∀ ys : List α, ((ys.map c.dat).any fun z => z.eqv (c.dat x)) = decide (x ∈ ys)
  | [] => by simp
  | y :: ys => by
    rw [List.map_cons, List.any_cons, any_cod c x ys, c.eqv, ← Bool.decide_or]
    exact decide_eq_decide.mpr (by rw [List.mem_cons]; exact ⟨fun z => z.elim (fun e => .inl e.symm) .inr, fun z => z.elim (fun e => .inl e.symm) .inr⟩)
theorem inV_lst (c : Cod α) {h : MHp} {m : Nat} {x : α} {ys : List α} (gy : h[m]? = some (.lst (ys.map c.enc))) (ox : c.ok x) (oy : ∀ x ∈ ys, c.ok x) (k : c.d < 20) : inV h (c.enc x) (.ref m) = some (decide (x ∈ ys)) := by
  unfold inV
  simp only [c.toD h x 20 (by omega), toD_lst c gy k, okD_cod c ox (by omega), okD_lst c oy k, Bool.and_self, if_true, any_cod]
theorem in_lst (c : Cod α) {h : MHp} {m : Nat} {x : α} {ys : List α} (gy : h[m]? = some (.lst (ys.map c.enc))) (ox : c.ok x) (oy : ∀ x ∈ ys, c.ok x) (k : c.d < 20) : cmpV .isin (c.enc x) (.ref m) h = some (decide (x ∈ ys)) := inV_lst c gy ox oy k
theorem ni_lst (c : Cod α) {h : MHp} {m : Nat} {x : α} {ys : List α} (gy : h[m]? = some (.lst (ys.map c.enc))) (ox : c.ok x) (oy : ∀ x ∈ ys, c.ok x) (k : c.d < 20) : cmpV .notin (c.enc x) (.ref m) h = some (!decide (x ∈ ys)) := by simp only [cmpV, inV_lst c gy ox oy k]; rfl
end
/-- values that can be compared -/
def PV (k : Nat) (v : MV) : Prop := ∃ d, (∀ h n, k ≤ n → MP.toD h n v = some d) ∧ d.canLay0 = true ∧ d.depth ≤ k
theorem pv_cod {α : Type} [DecidableEq α] (c : Cod α) {a : α} (o : c.ok a) : PV c.d (c.enc a) := ⟨_, fun h n k => c.toD h a n k, c.lay a o, c.dep a⟩
theorem PV.mono {k m : Nat} {v : MV} (p : PV k v) (l : k ≤ m) : PV m v := by
  obtain ⟨d, a, b, c⟩ := p
  exact ⟨d, fun h n z => a h n (by omega), b, by omega⟩
theorem pv_all {k : Nat} : ∀ {xs : List MV}, (∀ x ∈ xs, PV k x) → ∃ ds : List PyData, (∀ h n, k ≤ n → mapO (MP.toD h n) xs = some ds) ∧ PyData.canLayAll0 ds = true ∧ PyData.depthAll ds ≤ k ∧ ds.length = xs.length
  | [], _ => ⟨[], fun _ _ _ => rfl, rfl, Nat.zero_le _, rfl⟩
  | x :: xs, p => by
    obtain ⟨d, a, b, c⟩ := p x List.mem_cons_self
    obtain ⟨ds, e, f, g, l⟩ := pv_all fun y hy => p y (List.mem_cons_of_mem _ hy)
    refine ⟨d :: ds, fun h n z => ?_, ?_, ?_, by simp [l]⟩
    · rw [mapO, a h n z, e h n z]
    · rw [PyData.canLayAll0, b, f]; rfl
    · rw [PyData.depthAll]; exact Nat.max_le.mpr ⟨c, g⟩
theorem pv_tup {k : Nat} {xs : List MV} (p : ∀ x ∈ xs, PV k x) : PV (k + 1) (.tup xs) := by
  obtain ⟨ds, e, f, g, _⟩ := pv_all p
  refine ⟨.tuple ds, fun h n z => ?_, f, Nat.succ_le_succ g⟩
  match n, z with
  | n + 1, z => rw [MP.toD, e h n (by omega)]; rfl
theorem pv_row {r : List Nat × Int} (o : ∀ c ∈ r.1, c < 0x110000) : PV 1 (rowM r) := by
  refine pv_tup fun x hx => ?_
  rcases List.mem_append.mp hx with z | z
  · obtain ⟨c, hc, rfl⟩ := List.mem_map.mp z
    exact pv_cod cCh (o c hc)
  · rw [List.mem_singleton.mp z]; exact pv_cod cInt (a := r.2) trivial
theorem eqV_nil {h : MHp} {a b k : Nat} {xs : List MV} (ga : h[a]? = some (.lst xs)) (gb : h[b]? = some (.lst [])) (p : ∀ x ∈ xs, PV k x) (hk : k < 20) : eqV h (.ref a) (.ref b) = some (decide (xs = [])) := by
  obtain ⟨ds, e, f, g, l⟩ := pv_all p
  have t1 : MP.toD h 20 (.ref a) = some (.list ds) := by
    unfold MP.toD
    simp only [elems, ga]
    rw [e h 19 (by omega)]; rfl
  have t2 : MP.toD h 20 (.ref b) = some (.list []) := by
    unfold MP.toD
    simp only [elems, gb]; rfl
  have o1 : okD (.list ds) = true := by
    unfold okD PySem.SeqAt.shaped
    rw [show PyData.canLay0 (.list ds) = PyData.canLayAll0 ds from rfl, f, Bool.true_and, decide_eq_true_eq]
    show PyData.depthAll _ + 1 ≤ 64
    omega
  rw [eqV_gen t1 t2 o1 (by decide), PyData.eqv]
  cases xs with
  | nil => match ds, l with | [], _ => simp [PyData.eqvAll]
  | cons x xs => match ds, l with | d :: ds, _ => simp [PyData.eqvAll]
theorem n_nil {h : MHp} {a b k : Nat} {xs : List MV} (ga : h[a]? = some (.lst xs)) (gb : h[b]? = some (.lst [])) (p : ∀ x ∈ xs, PV k x) (hk : k < 20) : cmpV .ne (.ref a) (.ref b) h = some (!decide (xs = [])) := by
  simp only [cmpV, eqV_nil ga gb p hk]; rfl
theorem q_nil {h : MHp} {a b k : Nat} {xs : List MV} (ga : h[a]? = some (.lst xs)) (gb : h[b]? = some (.lst [])) (p : ∀ x ∈ xs, PV k x) (hk : k < 20) : cmpV .eq (.ref a) (.ref b) h = some (decide (xs = [])) := eqV_nil ga gb p hk
end MP
/-! S3: pools, rows, prices, books by the stream. -/
namespace MP
def abc : List Nat := [97, 98, 99, 100, 101, 102, 103, 104, 105, 106, 107, 108, 109, 110, 111, 112, 113, 114, 115, 116, 117, 118, 119, 120, 121, 122]
theorem abc_at {d : Int} (h0 : 0 ≤ d) (h : d < 26) : ∃ c : Nat, atI abc d = some c ∧ 97 ≤ c ∧ c ≤ 122 := by
  have hl : abc.length = 26 := rfl
  refine ⟨abc[d.toNat]'(by omega), atI_of h0 (by omega), ?_⟩
  have : ∀ c ∈ abc, 97 ≤ c ∧ c ≤ 122 := by decide
  exact this _ (List.getElem_mem _)
theorem small_of {i : Int} (h0 : 0 ≤ i) (h : i < 10 ^ 18) : smallI i = true := by
  unfold smallI; simp; omega
def PoolSp (ns : List Int) (m : Nat) (P : List MV → MHp → O MV) : Prop := ∀ (q : PQ) (t : MHp) (Q : MV → MHp → Prop), q.Ok → Tl t →
  (∀ (pool : List Nat) (q' : PQ), q'.Ok → 1 ≤ pool.length → pool.length ≤ m → (∀ c ∈ pool, 97 ≤ c ∧ c ≤ 122) → Q (.ref (t.length + 2)) (ph ns q' t ++ [.lst (pool.map chM)])) → WP (P [.ref 0] (ph ns q t)) Q
theorem pool_ok {C : Ora} {ns : List Int} (D : DrawSp ns (C "_law_draw")) : PoolSp ns 8 (runF C SH.law_pool) := by
  intro q t Q ok ht k
  refine w_run (ρ0 := [some (.ref 0), none, none, none]) rfl rfl ?_
  unfold SH.law_pool
  dsimp only
  repeat array_get_dec
  refine D _ _ _ _ ok (by decide) (by decide) fun d q ok h0 h1 => ?_
  repeat array_get_dec
  refine ws_nx (fun ρ h => ∃ (m : Int) (q : PQ), q.Ok ∧ 1 ≤ m ∧ m ≤ 8 ∧ ρ = [some (.ref 0), some (.str abc), some (.int m), none] ∧ h = ph ns q t) ?_ ?_
  · refine s_iff ?_
    repeat array_get_dec
    refine br_d (fun hr => ?_) (fun hr => ?_)
    · repeat array_get_dec
      refine D _ _ _ _ ok (by decide) (by decide) fun d q ok h0 h1 => ?_
      repeat array_get_dec
      exact ⟨_, _, ok, by omega, by omega, rfl, rfl⟩
    · repeat array_get_dec
      exact ⟨_, _, ok, by omega, by omega, rfl, rfl⟩
  · rintro _ _ ⟨m, q, ok, h0, h1, rfl, rfl⟩
    repeat array_get_dec
    refine ⟨small_of (by omega) (by omega), wp_compR (fun i acc h => ∃ (pool : List Nat) (q : PQ), q.Ok ∧ pool.length = i ∧ (∀ c ∈ pool, 97 ≤ c ∧ c ≤ 122) ∧ acc = pool.map chM ∧ h = ph ns q t) ⟨[], q, ok, rfl, by simp, rfl, rfl⟩ ?_ ?_⟩
    · rintro i _ _ hi ⟨pool, q, ok, hl, hp, rfl, rfl⟩
      repeat array_get_dec
      refine D _ _ _ _ ok (by decide) (by decide) fun d q ok h0 h1 => ?_
      repeat array_get_dec
      obtain ⟨c, e, c0, c1⟩ := abc_at h0 h1
      refine i_str (by decide) e ?_
      repeat array_get_dec
      refine ⟨pool ++ [c], q, ok, by simp [hl], ?_, by simp [chM], rfl⟩
      intro x hx
      rcases List.mem_append.mp hx with z | z
      · exact hp x z
      · simp at z; omega
    · rintro _ _ ⟨pool, q, ok, hl, hp, rfl, rfl⟩
      refine ⟨by simp [big]; omega, ?_⟩
      repeat array_get_dec
      exact k _ _ ok (by omega) (by omega) hp
structure RowsOk (rows : List (List Nat × Int)) (pool : List Nat) (many : Nat) : Prop where
  nd : (rows.map Prod.fst).Nodup
  len : ∀ r ∈ rows, r.1.length = many
  el : ∀ r ∈ rows, ∀ c ∈ r.1, c ∈ pool
  pr : ∀ r ∈ rows, -9 ≤ r.2 ∧ r.2 ≤ 9
def RowsSp (ns : List Int) (P : List MV → MHp → O MV) : Prop := ∀ (q : PQ) (t : MHp) (p : Nat) (pool : List Nat) (many most : Int) (Q : MV → MHp → Prop), q.Ok → Tl t → t[p]? = some (.lst (pool.map chM)) → (∀ c ∈ pool, c < 0x110000) → pool ≠ [] → pool.length ≤ 1000 → 0 ≤ many → many ≤ 100 → 0 ≤ most → most ≤ 1000 →
  (∀ (rows : List (List Nat × Int)) (q' : PQ), q'.Ok → (rows.length : Int) ≤ most → RowsOk rows pool many.toNat → Q (.tup (rows.map rowM)) (ph ns q' t)) → WP (P [.ref 0, .ref (p + 2), .int many, .int most] (ph ns q t)) Q
theorem rows_ok {C : Ora} {ns : List Int} (D : DrawSp ns (C "_law_draw")) : RowsSp ns (runF C SH.law_rows) := by
  intro q t p pool many most Q ok ht hp hc hne hpl hm0 hm1 h0 h1 k
  have hpos : 0 < pool.length := List.length_pos_iff.mpr hne
  refine w_run (ρ0 := [some (.ref 0), some (.ref (p + 2)), some (.int many), some (.int most), none, none, none, none, none, none]) rfl rfl ?_
  unfold SH.law_rows
  dsimp only
  repeat array_get_dec
  refine s_frR ?_
  repeat array_get_dec
  rw [ph_app, ph_app]
  refine D _ _ _ _ ok (by omega) (by omega) fun d q ok h0 h1 => ?_
  repeat array_get_dec
  refine ⟨small_of (by omega) (by omega), _, _, rfl, (fun i ρ h => ∃ (rows : List (List Nat × Int)) (q : PQ), q.Ok ∧ rows.length ≤ i ∧ RowsOk rows pool many.toNat ∧ ρ = [some (.ref 0), some (.ref (p + 2)), some (.int many), some (.int most), some (.ref (t.length + 2)), some (.ref (t.length + 1 + 2)), none, none, none, none] ∧ h = ph ns q (t ++ [.lst (rows.map rowM), .lst ((rows.map Prod.fst).map (cTup cCh).enc)])), ?_, ?_, ?_⟩
  · exact ⟨[], q, ok, Nat.le_refl _, ⟨List.nodup_nil, by simp, by simp, by simp⟩, by simp [ph_len], by rw [List.append_assoc]; rfl⟩
  · rintro i _ _ hi ⟨rows, q, ok, hl, R, rfl, rfl⟩
    have ht2 : Tl (t ++ [.lst (rows.map rowM), .lst ((rows.map Prod.fst).map (cTup cCh).enc)]) := tl_app2 ht (lo_rows _) (loL_map _ _ ((cTup cCh).lo _) _)
    have hul : (t ++ [MO.lst (rows.map rowM), MO.lst ((rows.map Prod.fst).map (cTup cCh).enc)]).length = t.length + 2 := by simp
    have hp2 : (t ++ [.lst (rows.map rowM), .lst ((rows.map Prod.fst).map (cTup cCh).enc)])[p]? = some (.lst (pool.map chM)) := get_app hp
    generalize ht3 : t ++ [.lst (rows.map rowM), .lst ((rows.map Prod.fst).map (cTup cCh).enc)] = u at ht2 hp2 hul
    refine ⟨_, rfl, ?_⟩
    unfold SH.law_rows_b1
    repeat array_get_dec
    refine ⟨small_of (by omega) (by omega), wp_compR (fun i acc h => ∃ (names : List Nat) (q : PQ), q.Ok ∧ names.length = i ∧ (∀ c ∈ names, c ∈ pool) ∧ acc = names.map chM ∧ h = ph ns q u) ⟨[], q, ok, rfl, by simp, rfl, rfl⟩ ?_ ?_⟩
    · rintro i _ _ hi ⟨names, q, ok, hl, hn, rfl, rfl⟩
      repeat array_get_dec
      refine D _ _ _ _ ok (by simp; omega) (by simp; omega) fun d q ok h0 h1 => ?_
      rw [List.length_map] at h1
      have g : atI (pool.map chM) d = some (chM (pool[d.toNat]'(by omega))) := by
        refine atI_get h0 ?_
        rw [List.getElem?_map, List.getElem?_eq_getElem (by omega)]; rfl
      have gm : pool[d.toNat]'(by omega) ∈ pool := List.getElem_mem _
      generalize pool[d.toNat]'(by omega) = c at g gm
      repeat array_get_dec
      refine ⟨names ++ [c], q, ok, by simp [hl], ?_, by simp, rfl⟩
      intro x hx
      rcases List.mem_append.mp hx with z | z
      · exact hn x z
      · simp at z; rw [z]; exact gm
    · rintro _ _ ⟨names, q, ok, hl2, hn, rfl, rfl⟩
      refine ⟨by simp [big]; omega, ?_⟩
      repeat array_get_dec
      refine D _ _ _ _ ok (by decide) (by decide) fun d q ok h0 h1 => ?_
      repeat array_get_dec
      refine s_iff ?_
      repeat array_get_dec
      have gs : u[t.length + 1]? = some (.lst ((rows.map Prod.fst).map (cTup cCh).enc)) := by rw [← ht3]; exact get_1
      have z2 : (rows.map rowM).length < big := by simp [big]; omega
      have z3 : (names.map chM).length + [MV.int (d - 9)].length ≤ big := by simp [big]; omega
      have gr : u[t.length]? = some (.lst (rows.map rowM)) := by rw [← ht3]; exact get_0
      have okn : (cTup cCh).ok names := fun c h => hc c (hn c h)
      refine cm_of (ni_lst (cTup cCh) (x := names) (ys := rows.map Prod.fst) (by rw [ph_get]; exact gs) okn (fun x hx c h => ?_) (by decide)) ?_
      · obtain ⟨r, hr, rfl⟩ := List.mem_map.mp hx
        exact hc c (R.el r hr c h)
      repeat array_get_dec
      refine br_n (fun hnew => ?_) (fun hold => ?_)
      · repeat array_get_dec
        have z1 : ((rows.map Prod.fst).map (cTup cCh).enc).length < big := by simp [big]; omega
        repeat array_get_dec
        simp only [ph_set, ← ht3, set_1]
        repeat array_get_dec
        simp only [ph_set, set_0]
        repeat array_get_dec
        refine ⟨rows ++ [(names, d - 9)], q, ok, by simp; omega, ⟨?_, ?_, ?_, ?_⟩, rfl, ?_⟩
        · rw [List.map_append, List.nodup_append]
          refine ⟨R.nd, by simp, ?_⟩
          intro a ha b hb e
          simp at hb
          subst e; subst hb
          exact hnew ha
        · intro r hr
          rcases List.mem_append.mp hr with z | z
          · exact R.len r z
          · rw [List.mem_singleton.mp z]; exact hl2
        · intro r hr
          rcases List.mem_append.mp hr with z | z
          · exact R.el r z
          · rw [List.mem_singleton.mp z]; exact hn
        · intro r hr
          rcases List.mem_append.mp hr with z | z
          · exact R.pr r z
          · rw [List.mem_singleton.mp z]; simp only; omega
        · simp only [List.map_append, List.map_cons, List.map_nil]; rfl
      · repeat array_get_dec
        exact ⟨rows, q, ok, by omega, R, rfl, by rw [ht3]⟩
  · rintro _ _ ⟨rows, q, ok, hl, R, rfl, rfl⟩
    repeat array_get_dec
    rw [← ph_app]
    refine g_lo rfl (by rw [MV.lo]; exact lo_rows _) (lo_phL ht) ?_
    exact k rows q ok (by omega) R
end MP
/-! S4: books by the stream; the price told for two letters. -/
namespace MP
structure BookOk (B : Book) (pool : List Nat) : Prop where
  g0 : 0 ≤ B.gap
  g1 : B.gap ≤ 6
  h : RowsOk B.hoops pool 2
  n : RowsOk B.nests pool 4
  hl : B.hoops.length ≤ 40
  nl : B.nests.length ≤ 20
  e0 : 1 ≤ B.ends.length
  e1 : B.ends.length ≤ 8
  b0 : 1 ≤ B.bends.length
  b1 : B.bends.length ≤ 8
def PricesSp (ns : List Int) (P : List MV → MHp → O MV) : Prop := ∀ (q : PQ) (t : MHp) (Q : MV → MHp → Prop), q.Ok → Tl t →
  (∀ (xs : List Int) (q' : PQ), q'.Ok → 1 ≤ xs.length → xs.length ≤ 8 → (∀ x ∈ xs, -9 ≤ x ∧ x ≤ 9) → Q (.tup (xs.map .int)) (ph ns q' t)) → WP (P [.ref 0] (ph ns q t)) Q
theorem prices2_ok {C : Ora} {ns : List Int} (D : DrawSp ns (C "_law_draw")) : PricesSp ns (runF C SH.law_prices_v2) := by
  intro q t Q ok ht k
  refine w_run (ρ0 := [some (.ref 0), none]) rfl rfl ?_
  unfold SH.law_prices_v2
  dsimp only
  repeat array_get_dec
  refine D _ _ _ _ ok (by decide) (by decide) fun m q ok m0 m1 => ?_
  repeat array_get_dec
  refine ⟨small_of (by omega) (by omega), wp_compR (fun i acc h => ∃ (xs : List Int) (q : PQ), q.Ok ∧ xs.length = i ∧ (∀ x ∈ xs, -9 ≤ x ∧ x ≤ 9) ∧ acc = xs.map .int ∧ h = ph ns q t) ⟨[], q, ok, rfl, by simp, rfl, rfl⟩ ?_ ?_⟩
  · rintro i _ _ hi ⟨xs, q, ok, hl, hp, rfl, rfl⟩
    repeat array_get_dec
    refine D _ _ _ _ ok (by decide) (by decide) fun d q ok h0 h1 => ?_
    repeat array_get_dec
    refine ⟨xs ++ [d - 9], q, ok, by simp [hl], ?_, by simp, rfl⟩
    intro x hx
    rcases List.mem_append.mp hx with z | z
    · exact hp x z
    · rw [List.mem_singleton.mp z]; omega
  · rintro _ _ ⟨xs, q, ok, hl, hp, rfl, rfl⟩
    refine ⟨by simp [big]; omega, ?_⟩
    repeat array_get_dec
    exact k xs q ok (by omega) (by omega) hp
def BookSp (ns : List Int) (P : List MV → MHp → O MV) : Prop := ∀ (q : PQ) (t : MHp) (p : Nat) (pool : List Nat) (Q : MV → MHp → Prop), q.Ok → Tl t → t[p]? = some (.lst (pool.map chM)) → (∀ c ∈ pool, c < 0x110000) → pool ≠ [] → pool.length ≤ 1000 →
  (∀ (B : Book) (q' : PQ), q'.Ok → BookOk B pool → Q (bookM B) (ph ns q' t)) → WP (P [.ref 0, .ref (p + 2)] (ph ns q t)) Q
theorem book2_ok {C : Ora} {ns : List Int} (D : DrawSp ns (C "_law_draw")) (R : RowsSp ns (C "_law_rows")) (P : PricesSp ns (C "_law_prices")) : BookSp ns (runF C SH.law_book_v2) := by
  intro q t p pool Q ok ht hp hc hne hpl k
  refine w_run (ρ0 := [some (.ref 0), some (.ref (p + 2)), none, none, none, none, none, none, none]) rfl rfl ?_
  unfold SH.law_book_v2
  dsimp only
  repeat array_get_dec
  refine D _ _ _ _ ok (by decide) (by decide) fun d q ok d0 d1 => ?_
  repeat array_get_dec
  refine ws_nx (fun ρ h => ∃ (g : Int) (q : PQ), q.Ok ∧ 0 ≤ g ∧ g ≤ 6 ∧ ρ = [some (.ref 0), some (.ref (p + 2)), some (.int g), none, none, none, none, none, none] ∧ h = ph ns q t) ?_ ?_
  · refine s_iff ?_
    repeat array_get_dec
    refine D _ _ _ _ ok (by decide) (by decide) fun e q ok e0 e1 => ?_
    repeat array_get_dec
    refine br_d (fun hr => ?_) (fun hr => ?_)
    · repeat array_get_dec
      refine D _ _ _ _ ok (by decide) (by decide) fun d q ok h0 h1 => ?_
      repeat array_get_dec
      exact ⟨_, _, ok, h0, by omega, rfl, rfl⟩
    · repeat array_get_dec
      exact ⟨_, _, ok, by omega, by omega, rfl, rfl⟩
  rintro _ _ ⟨g, q, ok, g0, g1, rfl, rfl⟩
  repeat array_get_dec
  refine ws_nx (fun ρ h => ∃ (m : Int) (q : PQ), q.Ok ∧ 0 ≤ m ∧ m ≤ 40 ∧ ρ = [some (.ref 0), some (.ref (p + 2)), some (.int g), some (.int m), none, none, none, none, none] ∧ h = ph ns q t) ?_ ?_
  · refine s_iff ?_
    repeat array_get_dec
    refine D _ _ _ _ ok (by decide) (by decide) fun e q ok e0 e1 => ?_
    repeat array_get_dec
    refine br_d (fun hr => ?_) (fun hr => ?_)
    · repeat array_get_dec
      exact ⟨_, _, ok, by decide, by decide, rfl, rfl⟩
    · repeat array_get_dec
      exact ⟨_, _, ok, by decide, by decide, rfl, rfl⟩
  rintro _ _ ⟨m, q, ok, m0, m1, rfl, rfl⟩
  repeat array_get_dec
  refine R _ _ _ _ _ _ _ ok ht hp hc hne hpl (by decide) (by decide) m0 (by omega) fun hoops q ok hl HO => ?_
  have l1 := lo_tup (n := (ph ns q t).length) (lo_rows hoops)
  repeat array_get_dec
  refine R _ _ _ _ _ _ _ ok ht hp hc hne hpl (by decide) (by decide) (by omega) (by omega) fun nests q ok nl NO => ?_
  repeat array_get_dec
  refine P _ _ _ ok ht fun ends q ok e0 e1 _ => ?_
  repeat array_get_dec
  refine P _ _ _ ok ht fun bends q ok b0 b1 _ => ?_
  repeat array_get_dec
  refine D _ _ _ _ ok (by decide) (by decide) fun f1 q ok _ _ => ?_
  repeat array_get_dec
  refine D _ _ _ _ ok (by decide) (by decide) fun f2 q ok _ _ => ?_
  repeat array_get_dec
  refine D _ _ _ _ ok (by decide) (by decide) fun f3 q ok _ _ => ?_
  repeat array_get_dec
  exact k ⟨g, hoops, nests, ends, bends, f1 - 9, f2 - 9, f3 - 2⟩ q ok ⟨g0, g1, HO, NO, by simp only; omega, by simp only; omega, e0, e1, b0, b1⟩
/-! ### the price told for two letters -/
def ownP (hoops : List (List Nat × Int)) (x y : Nat) : Option Int := (hoops.find? fun r => decide (r.1 = [x, y])).map (·.2)
def optM : Option Int → MV | some i => .int i | none => .non
def OwnSp (P : List MV → MHp → O MV) : Prop := ∀ (B : Book) (x y : Nat) (h : MHp) (Q : MV → MHp → Prop), (∀ r ∈ B.hoops, r.1.length = 2) → Q (optM (ownP B.hoops x y)) h → WP (P [bookM B, chM x, chM y] h) Q
theorem two_of {r : List Nat × Int} (h : r.1.length = 2) : ∃ a b i, r = ([a, b], i) := by
  obtain ⟨l, i⟩ := r
  match l, h with
  | [a, b], _ => exact ⟨a, b, i, rfl⟩
theorem own_ok {C : Ora} : OwnSp (runF C SH.own_price) := by
  intro B x y h Q hl k
  refine w_run (ρ0 := [some (bookM B), some (chM x), some (chM y), none, none, none]) rfl rfl ?_
  unfold SH.own_price
  dsimp only
  repeat array_get_dec
  refine s_fr ?_
  unfold bookM
  repeat array_get_dec
  refine ⟨_, _, rfl, rfl, (fun rest ρ h' => ∃ rs : List (List Nat × Int), rest = rs.map rowM ∧ (∀ r ∈ rs, r.1.length = 2) ∧ ownP rs x y = ownP B.hoops x y ∧ ρ = [some (bookM B), some (chM x), some (chM y), none, none, none] ∧ h' = h), ⟨_, rfl, hl, rfl, rfl, rfl⟩, ?_, ?_⟩
  · rintro _ _ _ _ ⟨rs, e, hr, ho, rfl, rfl⟩
    match rs, e, hr, ho with
    | [], e, _, _ => cases e
    | r :: rs, e, hr, ho =>
      cases e
      obtain ⟨a, b, i, rfl⟩ := two_of (hr _ List.mem_cons_self)
      refine ⟨_, rfl, ?_⟩
      unfold SH.own_price_b1
      have hn : ¬(a = x ∧ b = y) → ownP rs x y = ownP B.hoops x y := fun z => by
        rw [← ho]; unfold ownP; rw [List.find?_cons_of_neg]
        simpa using z
      repeat array_get_dec
      refine s_iff ?_
      repeat array_get_dec
      refine br_d (fun ha => ?_) (fun ha => ?_)
      · repeat array_get_dec
        refine br_d (fun hb => ?_) (fun hb => ?_)
        · repeat array_get_dec
          subst ha; subst hb
          have : ownP B.hoops a b = some i := by rw [← ho]; unfold ownP; rw [List.find?_cons_of_pos (by simp)]; rfl
          rw [this] at k
          exact k
        · repeat array_get_dec
          exact ⟨rs, rfl, fun r h => hr r (List.mem_cons_of_mem _ h), hn fun z => hb z.2, rfl, rfl⟩
      · repeat array_get_dec
        exact ⟨rs, rfl, fun r h => hr r (List.mem_cons_of_mem _ h), hn fun z => ha z.1, rfl, rfl⟩
  · rintro _ _ ⟨rs, e, _, ho, rfl, rfl⟩
    match rs, e with
    | [], _ =>
      repeat array_get_dec
      rw [← ho] at k
      exact k
end MP
/-! S5: which pairs may be hooped. -/
namespace MP
theorem atI_cord {s : List Nat} {i : Int} (h0 : 0 ≤ i) (h : i < s.length) : atI s i = some (s.getD i.toNat 0) := by
  refine atI_get h0 ?_
  rw [List.getD_eq_getElem?_getD, List.getElem?_eq_getElem (by omega)]; rfl
theorem i_ch {h : MHp} {Q : MV → MHp → Prop} {s : List Nat} {i : Int} (h0 : 0 ≤ i) (hl : i < s.length) (o : s.length ≤ big) (q : Q (chM (s.getD i.toNat 0)) h) : WP (idxV (.str s) (.int i) h) Q := i_str o (atI_cord h0 hl) q
def mayB (B : Book) (s : List Nat) (i j : Int) : Bool := decide (0 ≤ i ∧ i < j ∧ j < s.length ∧ ¬(j - i - 1 < B.gap)) && (ownP B.hoops (s.getD i.toNat 0) (s.getD j.toNat 0)).isSome
def MaySp (P : List MV → MHp → O MV) : Prop := ∀ (B : Book) (s : List Nat) (i j : Int) (h : MHp) (Q : MV → MHp → Prop), (∀ r ∈ B.hoops, r.1.length = 2) → s.length ≤ big → Q (.bl (mayB B s i j)) h → WP (P [bookM B, .str s, .int i, .int j] h) Q
theorem may_ok {C : Ora} (Ow : OwnSp (C "own_price")) : MaySp (runF C SH.may_hoop) := by
  intro B s i j h Q hl hs k
  refine w_run (ρ0 := [some (bookM B), some (.str s), some (.int i), some (.int j)]) rfl rfl ?_
  unfold SH.may_hoop
  dsimp only
  have no : ¬(0 ≤ i ∧ i < j ∧ j < s.length ∧ ¬(j - i - 1 < B.gap)) → Q (.bl false) h := fun z => by
    rw [mayB, decide_eq_false z, Bool.false_and] at k; exact k
  repeat array_get_dec
  refine s_iff ?_
  repeat array_get_dec
  refine br_d (fun h1 => ?_) (fun h1 => ?_)
  · repeat array_get_dec
    refine br_d (fun h2 => ?_) (fun h2 => ?_)
    · repeat array_get_dec
      refine k_lenS hs ?_
      repeat array_get_dec
      refine br_n (fun h3 => ?_) (fun h3 => ?_)
      · repeat array_get_dec
        exact no fun z => h3 z.2.2.1
      · repeat array_get_dec
        refine br_d (fun h4 => ?_) (fun h4 => ?_)
        · repeat array_get_dec
          exact no fun z => z.2.2.2 h4
        · repeat array_get_dec
          refine i_ch h1 (by omega) hs ?_
          repeat array_get_dec
          refine i_ch (by omega) h3 hs ?_
          repeat array_get_dec
          refine Ow _ _ _ _ _ hl ?_
          rw [mayB, decide_eq_true ⟨h1, h2, h3, h4⟩, Bool.true_and] at k
          cases e : ownP B.hoops (s.getD i.toNat 0) (s.getD j.toNat 0) with
          | none =>
            rw [e] at k
            unfold optM
            repeat array_get_dec
            exact k
          | some c =>
            rw [e] at k
            unfold optM
            repeat array_get_dec
            exact k
    · repeat array_get_dec
      exact no fun z => h2 z.2.1
  · repeat array_get_dec
    exact no fun z => h1 z.1
theorem own_filter {hoops : List (List Nat × Int)} {x y : Nat} : (ownP hoops x y).isSome = !decide (hoops.filter (fun r => decide (r.1 = [x, y])) = []) := by
  unfold ownP
  rw [Option.isSome_map]
  induction hoops with
  | nil => rfl
  | cons r rs ih =>
    by_cases e : r.1 = [x, y]
    · rw [List.find?_cons_of_pos (by simp [e]), List.filter_cons_of_pos (by simp [e])]; simp
    · rw [List.find?_cons_of_neg (by simp [e]), List.filter_cons_of_neg (by simp [e])]; exact ih
def MayLSp (P : List MV → MHp → O MV) : Prop := ∀ (B : Book) (s : List Nat) (i j : Int) (h : MHp) (Q : MV → MHp → Prop), (∀ r ∈ B.hoops, r.1.length = 2 ∧ ∀ c ∈ r.1, c < 0x110000) → B.hoops.length ≤ big → s.length ≤ big → loH h.length h = true → Q (.bl (mayB B s i j)) h → WP (P [bookM B, .str s, .int i, .int j] h) Q
theorem mayL2_ok {C : Ora} : MayLSp (runF C SH.law_may_v2) := by
  intro B s i j h Q hl hb hs hw k
  refine w_run (ρ0 := [some (bookM B), some (.str s), some (.int i), some (.int j), none]) rfl rfl ?_
  unfold SH.law_may_v2
  dsimp only
  have no : ¬(0 ≤ i ∧ i < j ∧ j < s.length ∧ ¬(j - i - 1 < B.gap)) → Q (.bl false) h := fun z => by
    rw [mayB, decide_eq_false z, Bool.false_and] at k; exact k
  repeat array_get_dec
  refine s_iff ?_
  repeat array_get_dec
  refine br_d (fun h1 => ?_) (fun h1 => ?_)
  · repeat array_get_dec
    exact no fun z => by omega
  repeat array_get_dec
  refine k_lenS hs ?_
  repeat array_get_dec
  refine br_d (fun h2 => ?_) (fun h2 => ?_)
  · repeat array_get_dec
    exact no fun z => by omega
  repeat array_get_dec
  refine br_d (fun h3 => ?_) (fun h3 => ?_)
  · repeat array_get_dec
    exact no fun z => by omega
  repeat array_get_dec
  refine br_d (fun h4 => ?_) (fun h4 => ?_)
  · repeat array_get_dec
    exact no fun z => z.2.2.2 h4
  repeat array_get_dec
  rw [mayB, decide_eq_true ⟨by omega, by omega, by omega, h4⟩, Bool.true_and, own_filter] at k
  generalize hx : s.getD i.toNat 0 = x at k
  generalize hy : s.getD j.toNat 0 = y at k
  refine wp_comp (fun rest acc h' => ∃ pre rs : List (List Nat × Int), B.hoops = pre ++ rs ∧ rest = rs.map rowM ∧ acc = (pre.filter (fun r => decide (r.1 = [x, y]))).map rowM ∧ h' = h) (by simp) ⟨[], B.hoops, rfl, rfl, rfl, rfl⟩ ?_ ?_
  · rintro _ _ _ _ ⟨pre, rs, eb, e, rfl, rfl⟩
    match rs, e, eb with
    | [], e, _ => cases e
    | r :: rs, e, eb =>
      cases e
      have hr : r ∈ B.hoops := by rw [eb]; simp
      obtain ⟨a, b, c, rfl⟩ := two_of (hl r hr).1
      have eb2 : B.hoops = (pre ++ [([a, b], c)]) ++ rs := by rw [eb]; simp
      rw [show rowM ([a, b], c) = .tup [chM a, chM b, .int c] from rfl]
      repeat array_get_dec
      refine i_ch (by omega) (by omega) hs ?_
      rw [hx]
      repeat array_get_dec
      refine br_d (fun ha => ?_) (fun ha => ?_)
      · repeat array_get_dec
        refine i_ch (by omega) (by omega) hs ?_
        rw [hy]
        repeat array_get_dec
        refine br_d (fun hb => ?_) (fun hb => ?_)
        · repeat array_get_dec
          exact ⟨_, rs, eb2, rfl, by simp [ha, hb, rowM], rfl⟩
        · repeat array_get_dec
          exact ⟨_, rs, eb2, rfl, by simp [hb], rfl⟩
      · repeat array_get_dec
        exact ⟨_, rs, eb2, rfl, by simp [ha], rfl⟩
  · rintro _ _ ⟨pre, rs, eb, e, rfl, rfl⟩
    match rs, e with
    | [], _ =>
    have ep : pre = B.hoops := by rw [eb]; simp
    subst ep
    have l1 := List.length_filter_le (fun r : List Nat × Int => decide (r.1 = [x, y])) B.hoops
    refine ⟨by rw [List.length_map]; omega, ?_⟩
    repeat array_get_dec
    refine cm_of (n_nil (k := 1) (get_app (get_new rfl)) (get_new rfl) (fun v hv => ?_) (by decide)) ?_
    · obtain ⟨r, hr, rfl⟩ := List.mem_map.mp hv
      exact pv_row (hl r (List.mem_filter.mp hr).1).2
    rw [show decide ((B.hoops.filter (fun r => decide (r.1 = [x, y]))).map rowM = []) = decide (B.hoops.filter (fun r => decide (r.1 = [x, y])) = []) from decide_eq_decide.mpr List.map_eq_nil_iff]
    repeat array_get_dec
    exact k
/-! ### all of them, rising -/
def rowPs (B : Book) (s : List Nat) (i : Nat) (n : Nat) : List (Int × Int) := ((List.range n).filter fun j : Nat => mayB B s i j).map fun j : Nat => ((i : Int), (j : Int))
def allPs (B : Book) (s : List Nat) (n : Nat) : List (Int × Int) := (List.range n).flatMap fun i => rowPs B s i s.length
theorem rowPs_step {B : Book} {s : List Nat} {i n : Nat} : rowPs B s i (n + 1) = rowPs B s i n ++ (if mayB B s i n then [((i : Int), (n : Int))] else []) := by
  unfold rowPs
  rw [List.range_succ, List.filter_append, List.map_append]
  congr 1
  by_cases h : mayB B s i n <;> simp [h]
theorem rowPs_low {B : Book} {s : List Nat} {i : Nat} : ∀ n, n ≤ i + 1 → rowPs B s i n = []
  | 0, _ => rfl
  | n + 1, h => by
    rw [rowPs_step, rowPs_low n (by omega)]
    have : mayB B s i n = false := by
      rw [mayB, decide_eq_false (by omega), Bool.false_and]
    rw [this]; rfl
theorem allPs_step {B : Book} {s : List Nat} {n : Nat} : allPs B s (n + 1) = allPs B s n ++ rowPs B s n s.length := by
  unfold allPs
  rw [List.range_succ, List.flatMap_append]; simp
theorem rowPs_len {B : Book} {s : List Nat} {i n : Nat} : (rowPs B s i n).length ≤ n := by
  unfold rowPs
  rw [List.length_map]
  exact Nat.le_trans (List.length_filter_le _ _) (by simp)
theorem allPs_len {B : Book} {s : List Nat} : ∀ n, (allPs B s n).length ≤ n * s.length
  | 0 => by simp [allPs]
  | n + 1 => by
    rw [allPs_step, List.length_append, Nat.add_mul, Nat.one_mul]
    have := @allPs_len B s n
    have := @rowPs_len B s n s.length
    omega
def AllSp (P : List MV → MHp → O MV) : Prop := ∀ (B : Book) (s : List Nat) (h : MHp) (Q : MV → MHp → Prop), (∀ r ∈ B.hoops, r.1.length = 2) → s.length ≤ 1000 → loH h.length h = true → Q (.ref h.length) (h ++ [.lst ((allPs B s s.length).map ofP)]) → WP (P [bookM B, .str s] h) Q
theorem all_ok {C : Ora} (May : MaySp (C "may_hoop")) : AllSp (runF C SH.all_pairs) := by
  intro B s h Q hl hs hw k
  have hb : s.length ≤ big := by unfold big; omega
  refine w_run (ρ0 := [some (bookM B), some (.str s), none, none, none]) rfl rfl ?_
  unfold SH.all_pairs
  dsimp only
  repeat array_get_dec
  refine s_frR ?_
  repeat array_get_dec
  refine k_lenS hb ?_
  repeat array_get_dec
  refine ⟨small_of (by omega) (by omega), _, _, rfl, (fun i ρ h' => i ≤ s.length ∧ ρ = [some (bookM B), some (.str s), some (.ref h.length), none, none] ∧ h' = h ++ [.lst ((allPs B s i).map ofP)]), ⟨Nat.zero_le _, rfl, rfl⟩, ?_, ?_⟩
  · rintro i _ _ hi ⟨_, rfl, rfl⟩
    refine ⟨_, rfl, ?_⟩
    unfold SH.all_pairs_b1
    repeat array_get_dec
    refine s_frR ?_
    repeat array_get_dec
    refine k_lenS hb ?_
    repeat array_get_dec
    refine ⟨_, _, rfl, rfl, small_of (by omega) (by omega), small_of (by omega) (by omega), _, _, rfl, (fun d ρ h' => ρ = [some (bookM B), some (.str s), some (.ref h.length), some (.int (0 + i)), none] ∧ h' = h ++ [.lst ((allPs B s i ++ rowPs B s i (i + 1 + d)).map ofP)]), ⟨rfl, by rw [rowPs_low _ (by omega), List.append_nil]⟩, ?_, ?_⟩
    · rintro d _ _ hd ⟨rfl, rfl⟩
      refine ⟨_, rfl, ?_⟩
      have hN : ((i : Int) + 1 + d).toNat = i + 1 + d := by omega
      have hlt : i + 1 + d < s.length := by omega
      have z1 : ((allPs B s i ++ rowPs B s i (i + 1 + d)).map ofP).length < big := by
        rw [List.length_map, List.length_append]
        have h1 := @allPs_len B s i
        have h2 := @rowPs_len B s i (i + 1 + d)
        have h3 : i * s.length ≤ 1000 * 1000 := Nat.mul_le_mul (by omega) hs
        unfold big; omega
      unfold SH.all_pairs_b2
      repeat array_get_dec
      refine s_iff ?_
      repeat array_get_dec
      refine May _ _ _ _ _ _ hl hb ?_
      rw [show (0 : Int) + i + 1 + d = ((i + 1 + d : Nat) : Int) by omega, show (0 : Int) + i = (i : Int) by omega]
      have st := @rowPs_step B s i (i + 1 + d)
      repeat array_get_dec
      refine br_b (fun c => ?_) (fun c => ?_)
      · repeat array_get_dec
        rw [set_0]
        repeat array_get_dec
        rw [if_pos c] at st
        exact ⟨rfl, by rw [show i + 1 + (d + 1) = i + 1 + d + 1 by omega, st, ← List.append_assoc, List.map_append (l₂ := [_])]; rfl⟩
      · repeat array_get_dec
        rw [if_neg (by rw [c]; decide), List.append_nil] at st
        exact ⟨rfl, by rw [show i + 1 + (d + 1) = i + 1 + d + 1 by omega, st]⟩
    · rintro _ _ ⟨rfl, rfl⟩
      repeat array_get_dec
      refine ⟨by omega, rfl, ?_⟩
      rw [allPs_step]
      by_cases hz : i + 1 ≤ s.length
      · rw [show i + 1 + ((s.length : Int) - (0 + i + 1)).toNat = s.length by omega]
      · omega
  · rintro _ _ ⟨_, rfl, rfl⟩
    repeat array_get_dec
    rw [Int.toNat_natCast]
    exact k
/-! ### cords by the stream -/
theorem strsL_ch : ∀ s : List Nat, strsL (s.map chM) = some (s.map fun c => [c])
  | [] => rfl
  | c :: s => by rw [List.map_cons, chM, strsL, strsL_ch s]; rfl
theorem joinL_ch : ∀ s : List Nat, joinL [] (s.map fun c => [c]) = s
  | [] => rfl
  | [c] => rfl
  | c :: d :: s => by
    have := joinL_ch (d :: s)
    rw [List.map_cons] at this
    rw [List.map_cons, List.map_cons, joinL, this]
    · rfl
    · intro h; cases h
theorem sum_ch : ∀ s : List Nat, ((s.map fun c => [c]).map List.length).sum = s.length
  | [] => rfl
  | c :: s => by
    have := sum_ch s
    simp at this ⊢; omega
/-- letters joined -/
theorem m_joinC {h : MHp} {Q : MV → MHp → Prop} {a : Nat} {s : List Nat} (o : h[a]? = some (.lst (s.map chM))) (b : s.length ≤ big) (q : Q (.str s) h) : WP (mtV .join (.str []) [.ref a] h) Q := by
  refine m_joinO o (strsL_ch s) ?_ ?_
  · rw [sum_ch]; simp; exact b
  · rw [joinL_ch]; exact q
/-- letters drawn from a pool -/
theorem comp_pool {C : Ora} {ns : List Int} (D : DrawSp ns (C "_law_draw")) {ρ : En} {k p slot : Nat} {q : PQ} {t : MHp} {pool : List Nat} {Q : List MV → MHp → Prop} (ok : q.Ok) (h0 : ρ[0]? = some (some (.ref 0))) (h1 : ρ[1]? = some (some (.ref (p + 2)))) (hs : 1 < slot) (hp : t[p]? = some (.lst (pool.map chM))) (hne : pool ≠ []) (hpl : pool.length ≤ 1000)
    (fin : ∀ (s : List Nat) (q : PQ), q.Ok → s.length = k → (∀ c ∈ s, c ∈ pool) → Q (s.map chM) (ph ns q t)) :
    WP (compL (cTurn C ρ (.idx (.var 1) (.call "_law_draw" (.cons (.var 0) (.cons (.bi .len (.cons (.var 1) .nil)) .nil)))) (.name slot) .none) (.one (.vals (rngL 0 k)) k) k 0 (ph ns q t)) Q := by
  have hpos : 0 < pool.length := List.length_pos_iff.mpr hne
  refine wp_compR (fun i acc h => ∃ (names : List Nat) (q : PQ), q.Ok ∧ names.length = i ∧ (∀ c ∈ names, c ∈ pool) ∧ acc = names.map chM ∧ h = ph ns q t) ⟨[], q, ok, rfl, by simp, rfl, rfl⟩ ?_ ?_
  · rintro i _ _ hi ⟨names, q, ok, hl, hn, rfl, rfl⟩
    have g0 : (ρ.set slot (some (.int (0 + i))))[0]? = some (some (.ref 0)) := by rw [List.getElem?_set_ne (by omega)]; exact h0
    have g1 : (ρ.set slot (some (.int (0 + i))))[1]? = some (some (.ref (p + 2))) := by rw [List.getElem?_set_ne (by omega)]; exact h1
    refine ct_turn rfl ?_
    refine cc_none ?_
    refine br_t ?_
    refine e_idx (e_var g1 ?_)
    refine e_call (es_cons (e_var g0 ?_))
    refine es_cons (e_bi (es_cons (e_var g1 ?_)))
    repeat array_get_dec
    refine D _ _ _ _ ok (by simp; omega) (by simp; omega) fun d q ok h0 h1 => ?_
    rw [List.length_map] at h1
    have g : atI (pool.map chM) d = some (chM (pool[d.toNat]'(by omega))) := by
      refine atI_get h0 ?_
      rw [List.getElem?_map, List.getElem?_eq_getElem (by omega)]; rfl
    have gm : pool[d.toNat]'(by omega) ∈ pool := List.getElem_mem _
    generalize pool[d.toNat]'(by omega) = c at g gm
    repeat array_get_dec
    refine ⟨names ++ [c], q, ok, by simp [hl], ?_, by simp, rfl⟩
    intro x hx
    rcases List.mem_append.mp hx with z | z
    · exact hn x z
    · simp at z; rw [z]; exact gm
  · rintro _ _ ⟨names, q, ok, hl2, hn, rfl, rfl⟩
    exact fin names q ok hl2 hn
def CordSp (ns : List Int) (m : Nat) (P : List MV → MHp → O MV) : Prop := ∀ (q : PQ) (t : MHp) (p : Nat) (pool : List Nat) (Q : MV → MHp → Prop), q.Ok → Tl t → t[p]? = some (.lst (pool.map chM)) → pool ≠ [] → pool.length ≤ 1000 →
  (∀ (s : List Nat) (q' : PQ), q'.Ok → s.length ≤ m → (∀ c ∈ s, c ∈ pool) → Q (.str s) (ph ns q' t)) → WP (P [.ref 0, .ref (p + 2)] (ph ns q t)) Q
theorem cord4_ok {C : Ora} {ns : List Int} (D : DrawSp ns (C "_law_draw")) : CordSp ns 20 (runF C SH.law_cord_v4) := by
  intro q t p pool Q ok ht hp hne hpl k
  refine w_run (ρ0 := [some (.ref 0), some (.ref (p + 2)), none, none]) rfl rfl ?_
  unfold SH.law_cord_v4
  dsimp only
  repeat array_get_dec
  refine D _ _ _ _ ok (by decide) (by decide) fun d q ok d0 d1 => ?_
  repeat array_get_dec
  refine ws_nx (fun ρ h => ∃ (m : Int) (q : PQ), q.Ok ∧ 0 ≤ m ∧ m ≤ 20 ∧ ρ = [some (.ref 0), some (.ref (p + 2)), some (.int m), none] ∧ h = ph ns q t) ?_ ?_
  · refine s_iff ?_
    repeat array_get_dec
    refine D _ _ _ _ ok (by decide) (by decide) fun e q ok e0 e1 => ?_
    repeat array_get_dec
    refine br_d (fun hr => ?_) (fun hr => ?_)
    · repeat array_get_dec
      refine D _ _ _ _ ok (by decide) (by decide) fun f q ok f0 f1 => ?_
      repeat array_get_dec
      exact ⟨_, _, ok, by omega, by omega, rfl, rfl⟩
    · repeat array_get_dec
      exact ⟨_, _, ok, by omega, by omega, rfl, rfl⟩
  · rintro _ _ ⟨m, q, ok, h0, h1, rfl, rfl⟩
    repeat array_get_dec
    refine ⟨small_of (by omega) (by omega), comp_pool D ok rfl rfl (by decide) hp hne hpl fun s q ok hl hs => ?_⟩
    refine ⟨by simp [big]; omega, ?_⟩
    repeat array_get_dec
    refine m_joinC (get_new rfl) (by unfold big; omega) ?_
    repeat array_get_dec
    exact k s q ok (by omega) hs
end MP
/-! S6: pairs by the stream; rows of partners; the text of a shape. -/
namespace MP
def PsOk (many : Int) (ps : List (Int × Int)) : Prop := ∀ p ∈ ps, 0 ≤ p.1 ∧ p.1 < p.2 ∧ p.2 < many
/-! ### a row of partners -/
def putP (row : List Int) (p : Int × Int) : List Int := (row.set p.1.toNat p.2).set p.2.toNat p.1
def rowV (many : Nat) (ps : List (Int × Int)) : List Int := ps.foldl putP (List.replicate many (-1))
theorem putP_len (row : List Int) (p : Int × Int) : (putP row p).length = row.length := by simp [putP]
theorem foldP_len : ∀ (ps : List (Int × Int)) (row : List Int), (ps.foldl putP row).length = row.length
  | [], _ => rfl
  | p :: ps, row => by rw [List.foldl_cons, foldP_len ps, putP_len]
theorem rowV_len (many : Nat) (ps : List (Int × Int)) : (rowV many ps).length = many := by rw [rowV, foldP_len]; simp
def RowSp (P : List MV → MHp → O MV) : Prop := ∀ (many : Int) (ps : List (Int × Int)) (h : MHp) (Q : MV → MHp → Prop), 0 ≤ many → many ≤ 1000000 → PsOk many ps → loH h.length h = true → Q (.ref h.length) (h ++ [.lst ((rowV many.toNat ps).map .int)]) → WP (P [.int many, .tup (ps.map ofP)] h) Q
theorem flat_one {α : Type} (x : α) : ∀ n, (List.replicate n [x]).flatten = List.replicate n x
  | 0 => rfl
  | n + 1 => by rw [List.replicate_succ, List.flatten_cons, flat_one x n, List.replicate_succ]; rfl
theorem row_ok {C : Ora} : RowSp (runF C SH.row_of) := by
  intro many ps h Q m0 m1 hp hw k
  refine w_run (ρ0 := [some (.int many), some (.tup (ps.map ofP)), none, none, none]) rfl rfl ?_
  unfold SH.row_of
  dsimp only
  repeat array_get_dec
  refine b_rep (get_new rfl) ⟨m0, by simp [big]; omega, by omega⟩ ?_
  have l1 : loL h.length (List.replicate many.toNat [MV.int (-1)]).flatten = true := by
    rw [flat_one, loL_iff]
    intro x hx
    rw [List.eq_of_mem_replicate hx]; rfl
  repeat array_get_dec
  have e0 : (List.replicate many.toNat [MV.int (-1)]).flatten = (List.replicate many.toNat (-1 : Int)).map .int := by rw [flat_one, List.map_replicate]
  rw [e0]
  refine s_fr ?_
  repeat array_get_dec
  refine ⟨_, _, rfl, rfl, (fun rest ρ h' => ∃ (rs : List (Int × Int)) (row : List Int), rest = rs.map ofP ∧ PsOk many rs ∧ row.length = many.toNat ∧ rs.foldl putP row = rowV many.toNat ps ∧ ρ = [some (.int many), some (.tup (ps.map ofP)), some (.ref h.length), none, none] ∧ h' = h ++ [.lst (row.map .int)]), ⟨ps, _, rfl, hp, by simp, rfl, rfl, rfl⟩, ?_, ?_⟩
  · rintro _ _ _ _ ⟨rs, row, e, ho, hl, hf, rfl, rfl⟩
    match rs, e, ho, hf with
    | [], e, _, _ => cases e
    | (i, j) :: rs, e, ho, hf =>
      cases e
      obtain ⟨p0, p1, p2⟩ := ho _ List.mem_cons_self
      simp only at p0 p1 p2
      refine ⟨_, rfl, ?_⟩
      unfold SH.row_of_b1
      repeat array_get_dec
      refine u_obj (j := i.toNat) (get_new rfl) (ixN_of p0 (by simp; omega)) ?_
      rw [set_0, ← List.map_set]
      repeat array_get_dec
      refine u_obj (j := j.toNat) (get_new rfl) (ixN_of (by omega) (by simp; omega)) ?_
      rw [set_0, ← List.map_set]
      repeat array_get_dec
      exact ⟨rs, putP row (i, j), rfl, fun p h => ho p (List.mem_cons_of_mem _ h), by rw [putP_len]; exact hl, hf, rfl, rfl⟩
  · rintro _ _ ⟨rs, row, e, _, _, hf, rfl, rfl⟩
    match rs, e with
    | [], _ =>
      repeat array_get_dec
      rw [← hf] at k
      exact k
/-! ### partner and sign of one spot -/
def ptP (at_ : Int) (s : Int × Nat) (p : Int × Int) : Int × Nat :=
  let s1 := if p.1 = at_ then (p.2, 40) else s
  if p.2 = at_ then (p.1, 41) else s1
def signOf (at_ other : Int) : Nat := if other < 0 then 46 else if at_ < other then 40 else 41
theorem ptP_row {many : Nat} {a : Nat} (ha : a < many) : ∀ (ps : List (Int × Int)) (row : List Int) (s : Int × Nat), PsOk many ps → row.length = many → row[a]? = some s.1 → s.2 = signOf a s.1 →
    (ps.foldl putP row)[a]? = some (ps.foldl (ptP a) s).1 ∧ (ps.foldl (ptP a) s).2 = signOf a (ps.foldl (ptP a) s).1
  | [], _, _, _, _, g, z => ⟨g, z⟩
  | (i, j) :: ps, row, s, ho, hl, g, z => by
    obtain ⟨p0, p1, p2⟩ := ho _ List.mem_cons_self
    simp only at p0 p1 p2
    rw [List.foldl_cons, List.foldl_cons]
    refine ptP_row ha ps _ _ (fun p h => ho p (List.mem_cons_of_mem _ h)) (by rw [putP_len]; exact hl) ?_ ?_
    · unfold putP ptP
      simp only
      by_cases hj : j = a
      · rw [if_pos hj, show j.toNat = a by omega, List.getElem?_set_self (by simp; omega)]
      · rw [if_neg hj, List.getElem?_set_ne (show j.toNat ≠ a by omega)]
        by_cases hi : i = a
        · rw [if_pos hi, show i.toNat = a by omega, List.getElem?_set_self (by omega)]
        · rw [if_neg hi, List.getElem?_set_ne (show i.toNat ≠ a by omega)]
          exact g
    · unfold ptP
      simp only
      by_cases hj : j = a
      · rw [if_pos hj]
        unfold signOf
        rw [if_neg (by simp only; omega), if_neg (by simp only; omega)]
      · rw [if_neg hj]
        by_cases hi : i = a
        · rw [if_pos hi]
          unfold signOf
          rw [if_neg (by simp only; omega), if_pos (by simp only; omega)]
        · rw [if_neg hi]; exact z
theorem rowV_at {many a : Nat} (ha : a < many) {ps : List (Int × Int)} (ho : PsOk many ps) :
    (rowV many ps)[a]? = some (ps.foldl (ptP a) (-1, 46)).1 ∧ (ps.foldl (ptP a) (-1, 46)).2 = signOf a (ps.foldl (ptP a) (-1, 46)).1 := by
  refine ptP_row ha ps _ _ ho (by simp) ?_ ?_
  · simp [ha]
  · rfl
/-! ### the text of a shape -/
def showV (row : List Int) : Nat → List Nat
  | 0 => []
  | n + 1 => showV row n ++ [signOf n (row.getD n 0)]
theorem showV_len (row : List Int) : ∀ n, (showV row n).length = n
  | 0 => rfl
  | n + 1 => by rw [showV, List.length_append, showV_len row n]; rfl
def ShowSp (P : List MV → MHp → O MV) : Prop := ∀ (many : Int) (ps : List (Int × Int)) (h : MHp) (Q : MV → MHp → Prop), 0 ≤ many → many ≤ 1000000 → PsOk many ps → loH h.length h = true → Q (.str (showV (rowV many.toNat ps) many.toNat)) h → WP (P [.int many, .tup (ps.map ofP)] h) Q
theorem show_ok {C : Ora} (Ro : RowSp (C "row_of")) : ShowSp (runF C SH.show_shape) := by
  intro many ps h Q m0 m1 hp hw k
  refine w_run (ρ0 := [some (.int many), some (.tup (ps.map ofP)), none, none, none]) rfl rfl ?_
  unfold SH.show_shape
  dsimp only
  repeat array_get_dec
  have hw1 : loH (h ++ [MO.lst []]).length (h ++ [MO.lst []]) = true := by
    rw [loH_append, loH_mono (n := h.length) (by simp) h hw]; rfl
  refine s_frG ?_
  repeat array_get_dec
  refine Ro _ _ _ _ m0 m1 hp hw1 ?_
  have hrl := rowV_len many.toNat ps
  generalize rowV many.toNat ps = row at k hrl
  have li : ∀ n, loL n (row.map .int) = true := fun n => lo_int _
  repeat array_get_dec
  refine ⟨rfl, z_new (get_new rfl) (Nat.le_refl _) (lo_int _) (List.take_left' rfl) hw1 ?_⟩
  have hl2 : (row.map MV.int).length = many.toNat := by simp [hrl]
  refine ⟨(fun i ρ h' => ρ = [some (.int many), some (.tup (ps.map ofP)), some (.ref h.length), none, none] ∧ h' = h ++ [.lst ((showV row i).map chM)]), ⟨rfl, rfl⟩, ?_, ?_⟩
  · rintro i _ _ hi ⟨rfl, rfl⟩
    have hi : i < row.length := by simpa [countI] using hi
    have g : (row.map MV.int)[i]? = some (.int row[i]) := by rw [List.getElem?_map, List.getElem?_eq_getElem hi]; rfl
    have gd : row.getD i 0 = row[i] := by rw [List.getD_eq_getElem?_getD, List.getElem?_eq_getElem hi]; rfl
    have sl := showV_len row i
    have st : showV row (i + 1) = showV row i ++ [signOf i row[i]] := by rw [showV, gd]
    generalize row[i] = o at g st
    refine ⟨.tup [.int i, .int o], _, by simp only [itemI, Src.get, Option.bind_some, g, Option.map_some], rfl, ?_⟩
    have z1 : ((showV row i).map chM).length < big := by rw [List.length_map, sl]; unfold big; omega
    unfold SH.show_shape_b1
    repeat array_get_dec
    refine s_iff ?_
    repeat array_get_dec
    refine br_d (fun h1 => ?_) (fun h1 => ?_)
    · repeat array_get_dec
      rw [set_0]
      repeat array_get_dec
      rw [signOf, if_pos h1] at st
      exact ⟨rfl, by rw [st, List.map_append]; rfl⟩
    · repeat array_get_dec
      refine s_iff ?_
      repeat array_get_dec
      refine br_d (fun h2 => ?_) (fun h2 => ?_)
      · repeat array_get_dec
        rw [set_0]
        repeat array_get_dec
        rw [signOf, if_neg h1, if_pos h2] at st
        exact ⟨rfl, by rw [st, List.map_append]; rfl⟩
      · repeat array_get_dec
        rw [set_0]
        repeat array_get_dec
        rw [signOf, if_neg h1, if_neg h2] at st
        exact ⟨rfl, by rw [st, List.map_append]; rfl⟩
  · rintro _ _ ⟨rfl, rfl⟩
    refine ⟨by simp [lenI, Src.get, countI], ?_⟩
    rw [show countI (.enum (.vals (row.map MV.int)) (row.map MV.int).length) = many.toNat from hl2]
    repeat array_get_dec
    refine m_joinC (get_new rfl) (by rw [showV_len]; unfold big; omega) ?_
    repeat array_get_dec
    exact k
/-! ### pairs by the stream -/
theorem mem_insP {i : Int × Int} : ∀ {l : List (Int × Int)} {p}, p ∈ insP i l → p = i ∨ p ∈ l
  | [], p, h => by simp [insP] at h; exact .inl h
  | j :: js, p, h => by
    unfold insP at h
    split at h
    · rcases List.mem_cons.mp h with z | z
      · exact .inl z
      · exact .inr z
    · rcases List.mem_cons.mp h with z | z
      · exact .inr (by simp [z])
      · rcases mem_insP z with y | y
        · exact .inl y
        · exact .inr (List.mem_cons_of_mem _ y)
theorem mem_sortP : ∀ {l : List (Int × Int)} {p}, p ∈ sortP l → p ∈ l
  | [], _, h => h
  | i :: l, p, h => by
    rcases mem_insP h with z | z
    · simp [z]
    · exact List.mem_cons_of_mem _ (mem_sortP z)
theorem insP_len (i : Int × Int) : ∀ l : List (Int × Int), (insP i l).length = l.length + 1
  | [] => rfl
  | j :: js => by
    unfold insP
    split
    · rfl
    · rw [List.length_cons, insP_len i js]; rfl
theorem sortP_len : ∀ l : List (Int × Int), (sortP l).length = l.length
  | [] => rfl
  | i :: l => by rw [sortP, insP_len, sortP_len l]; rfl
def PairsSp (ns : List Int) (P : List MV → MHp → O MV) : Prop := ∀ (q : PQ) (t : MHp) (many : Int) (Q : MV → MHp → Prop), q.Ok → Tl t → 0 ≤ many → many ≤ 1000000 →
  (∀ (ps : List (Int × Int)) (q' : PQ), q'.Ok → PsOk many ps → ps.length ≤ many.toNat → Q (.tup (ps.map ofP)) (ph ns q' t)) → WP (P [.ref 0, .int many] (ph ns q t)) Q
theorem lawPairs_ok {C : Ora} {ns : List Int} (D : DrawSp ns (C "_law_draw")) : PairsSp ns (runF C SH.law_pairs) := by
  intro q t many Q ok ht m0 m1 k
  refine w_run (ρ0 := [some (.ref 0), some (.int many), none, none, none, none]) rfl rfl ?_
  unfold SH.law_pairs
  dsimp only
  repeat array_get_dec
  refine s_frR ?_
  repeat array_get_dec
  refine ⟨small_of (by omega) (by omega), _, _, rfl, (fun i ρ h => ∃ (bs : List Int) (ps : List (Int × Int)) (q : PQ), q.Ok ∧ bs.length ≤ i ∧ ps.length ≤ i ∧ (∀ b ∈ bs, 0 ≤ b ∧ b < i) ∧ PsOk i ps ∧ ρ = [some (.ref 0), some (.int many), some (.ref (t.length + 2)), some (.ref (t.length + 1 + 2)), none, none] ∧ h = ph ns q (t ++ [.lst (bs.map .int), .lst (ps.map ofP)])), ?_, ?_, ?_⟩
  · exact ⟨[], [], q, ok, Nat.le_refl _, Nat.le_refl _, by simp, fun p h => absurd h (by simp), by simp [ph_len], by rw [ph_app, ph_app, List.append_assoc]; rfl⟩
  · rintro i _ _ hi ⟨bs, ps, q, ok, bl, pl, hb, hp, rfl, rfl⟩
    refine ⟨_, rfl, ?_⟩
    have ht2 : Tl (t ++ [.lst (bs.map .int), .lst (ps.map ofP)]) := tl_app2 ht (lo_int _) (lo_pairs _)
    unfold SH.law_pairs_b1
    repeat array_get_dec
    refine D _ _ _ _ ok (by decide) (by decide) fun d q ok d0 d1 => ?_
    repeat array_get_dec
    refine ws_nx (fun ρ h => ∃ (bs : List Int), bs.length ≤ i + 1 ∧ (∀ b ∈ bs, 0 ≤ b ∧ b < i + 1) ∧ (d = 2 → ∀ b ∈ bs, b < i) ∧ ρ = [some (.ref 0), some (.int many), some (.ref (t.length + 2)), some (.ref (t.length + 1 + 2)), some (.int (0 + i)), some (.int d)] ∧ h = ph ns q (t ++ [.lst (bs.map .int), .lst (ps.map ofP)])) ?_ ?_
    · have z1 : (bs.map MV.int).length < big := by rw [List.length_map]; unfold big; omega
      refine s_iff ?_
      repeat array_get_dec
      refine br_d (fun hr => ?_) (fun hr => ?_)
      · repeat array_get_dec
        rw [ph_set, set_0]
        repeat array_get_dec
        refine ⟨bs ++ [0 + (i : Int)], by simp; omega, ?_, fun z => by omega, rfl, by simp⟩
        intro b hb2
        rcases List.mem_append.mp hb2 with z | z
        · have := hb b z; omega
        · rw [List.mem_singleton.mp z]; omega
      · repeat array_get_dec
        exact ⟨bs, by omega, fun b h => by have := hb b h; omega, fun _ b h => (hb b h).2, rfl, rfl⟩
    clear hb bl ht2
    rintro _ _ ⟨bs, bl, hb, hb2, rfl, rfl⟩
    have ht2 : Tl (t ++ [.lst (bs.map .int), .lst (ps.map ofP)]) := tl_app2 ht (lo_int _) (lo_pairs _)
    have hp2 : PsOk ((i + 1 : Nat) : Int) ps := fun p h => by have := hp p h; omega
    have hb3 : ∀ b ∈ bs, 0 ≤ b ∧ b < ((i + 1 : Nat) : Int) := fun b h => by have := hb b h; omega
    repeat array_get_dec
    refine s_iff ?_
    repeat array_get_dec
    refine br_d (fun hr => ?_) (fun hr => ?_)
    · repeat array_get_dec
      refine cm_of (n_nil (k := 0) (get_app (by rw [ph_get]; exact get_0)) (get_new rfl) (fun v hv => ?_) (by decide)) ?_
      · obtain ⟨b, _, rfl⟩ := List.mem_map.mp hv
        exact pv_cod cInt (a := b) trivial
      repeat array_get_dec
      refine br_n (fun hn => ?_) (fun hn => ?_)
      · have hne : bs ≠ [] := fun z => hn (by rw [z]; rfl)
        have hgl : (bs.map MV.int).getLast? = some (.int (bs.getLast hne)) := by rw [List.getLast?_map, List.getLast?_eq_some_getLast hne]; rfl
        have hmem := List.getLast_mem hne
        generalize bs.getLast hne = b at hgl hmem
        repeat array_get_dec
        refine m_pop (by rw [ph_get]; exact get_0) hgl ?_
        rw [ph_set, set_0, ← List.map_dropLast]
        have z1 : (ps.map ofP).length < big := by rw [List.length_map]; unfold big; omega
        repeat array_get_dec
        rw [ph_set, set_1]
        repeat array_get_dec
        refine ⟨bs.dropLast, ps ++ [(b, 0 + (i : Int))], q, ok, by simp; omega, by simp; omega, fun b h => hb3 b (List.dropLast_subset _ h), ?_, rfl, by simp [ofP]⟩
        intro p h
        rcases List.mem_append.mp h with z | z
        · exact hp2 p z
        · rw [List.mem_singleton.mp z]
          have h1 := hb b hmem
          have h2 := hb2 hr b hmem
          simp only
          omega
      · repeat array_get_dec
        exact ⟨bs, ps, q, ok, bl, by omega, hb3, hp2, rfl, rfl⟩
    · repeat array_get_dec
      exact ⟨bs, ps, q, ok, bl, by omega, hb3, hp2, rfl, rfl⟩
  · rintro _ _ ⟨bs, ps, q, ok, bl, pl, hb, hp, rfl, rfl⟩
    have ht2 : Tl (t ++ [.lst (bs.map .int), .lst (ps.map ofP)]) := tl_app2 ht (lo_int _) (lo_pairs _)
    have l1 : ∀ n, loL n ((sortP ps).map ofP) = true := fun n => lo_pairs _
    have l2 : ∀ n, MV.lo n (.tup ((sortP ps).map ofP)) = true := fun n => lo_tup (lo_pairs _)
    repeat array_get_dec
    rw [← ph_app]
    refine g_lo rfl (l2 _) (lo_phL ht) ?_
    refine k _ _ ok (fun p h => ?_) (by rw [sortP_len]; exact pl)
    have := hp p (mem_sortP h)
    omega
end MP
/-! Zk06: the law of rows and texts, plainly. -/
namespace Gk06
open MP
def AlikeSp (P : List MV → MHp → O MV) : Prop := ∀ (xs : List Int) (a b : Nat) (h : MHp) (Q : MV → MHp → Prop), h[a]? = some (.lst (xs.map .int)) → h[b]? = some (.lst (xs.map .int)) → a < h.length → Q (.bl true) h → WP (P [.ref a, .ref b] h) Q
theorem alike_ok {C : Ora} : AlikeSp (runF C Gk06.L_alike) := by
  intro xs a b h Q ga gb la k
  refine w_run (ρ0 := [some (.ref a), some (.ref b), none]) rfl rfl ?_
  unfold Gk06.L_alike
  dsimp only
  repeat array_get_dec
  refine s_iff ?_
  repeat array_get_dec
  refine cm_of (n_lst cInt ga gb (fun _ _ => trivial) (fun _ _ => trivial) (by decide)) ?_
  repeat array_get_dec
  refine br_n (fun z => absurd rfl z) fun _ => ?_
  repeat array_get_dec
  refine s_frG ?_
  repeat array_get_dec
  refine z_old ga la ?_
  refine ⟨(fun i ρ h' => ρ = [some (.ref a), some (.ref b), none] ∧ h' = h), ⟨rfl, rfl⟩, ?_, ?_⟩
  · rintro i _ _ hi ⟨rfl, rfl⟩
    have hi : i < xs.length := by simpa [countI] using hi
    have g : (xs.map MV.int)[i]? = some (.int xs[i]) := by rw [List.getElem?_map, List.getElem?_eq_getElem hi]; rfl
    generalize xs[i] = p at g
    refine ⟨.int p, _, by simp only [itemI, Src.get, elems, ga, Option.bind_some, g], rfl, ?_⟩
    unfold Gk06.L_alike_b1
    repeat array_get_dec
    refine s_iff ?_
    repeat array_get_dec
    exact ⟨rfl, rfl⟩
  · rintro _ _ ⟨rfl, rfl⟩
    refine ⟨by simp [lenI, Src.get, elems, ga, countI], ?_⟩
    repeat array_get_dec
    exact k
def dueV (ps : List (Int × Int)) (n : Nat) : List Int := (List.range n).map fun a : Nat => (ps.foldl (ptP a) (-1, 46)).1
def sgnV (ps : List (Int × Int)) (n : Nat) : List Nat := (List.range n).map fun a : Nat => (ps.foldl (ptP a) (-1, 46)).2
theorem dueV_step {ps : List (Int × Int)} {n : Nat} : dueV ps (n + 1) = dueV ps n ++ [(ps.foldl (ptP n) (-1, 46)).1] := by
  unfold dueV; rw [List.range_succ, List.map_append]; rfl
theorem sgnV_step {ps : List (Int × Int)} {n : Nat} : sgnV ps (n + 1) = sgnV ps n ++ [(ps.foldl (ptP n) (-1, 46)).2] := by
  unfold sgnV; rw [List.range_succ, List.map_append]; rfl
theorem due_row {ps : List (Int × Int)} {n : Nat} (h : PsOk n ps) : dueV ps n = rowV n ps := by
  refine List.ext_getElem? fun a => ?_
  by_cases ha : a < n
  · rw [(rowV_at ha h).1]
    unfold dueV
    rw [List.getElem?_map, List.getElem?_range ha]; rfl
  · rw [List.getElem?_eq_none (by simp [dueV]; omega), List.getElem?_eq_none (by rw [rowV_len]; omega)]
theorem sgn_show {ps : List (Int × Int)} {n : Nat} (h : PsOk n ps) : ∀ m, m ≤ n → sgnV ps m = showV (rowV n ps) m
  | 0, _ => rfl
  | m + 1, hm => by
    have r := rowV_at (a := m) (by omega) h
    rw [sgnV_step, showV, sgn_show h m (by omega), r.2]
    rw [List.getD_eq_getElem?_getD, r.1]; rfl
theorem law_ok {C : Ora} {ns : List Int} (T : StreamSp ns (C "_law_stream")) (D : DrawSp ns (C "_law_draw")) (Pa : PairsSp ns (C "_law_pairs")) (Ro : RowSp (C "row_of")) (Sh : ShowSp (C "show_shape")) (Al : AlikeSp (C "_law_alike")) :
    WP (runF C Gk06.F_law [.rol (ns.map .int)] []) fun v _ => v = .bl true := by
  refine w_run (ρ0 := [some (.rol (ns.map .int)), none, none, none, none, none, none, none, none, none, none, none, none]) rfl rfl ?_
  unfold Gk06.F_law
  dsimp only
  repeat array_get_dec
  refine T _ fun q ok => ?_
  refine g_pot ?_
  repeat array_get_dec
  have tn : Tl [] := tl_nil
  refine D _ _ _ _ ok (by decide) (by decide) fun many q ok m0 m1 => ?_
  repeat array_get_dec
  refine Pa _ _ _ _ ok tn m0 (by omega) fun ps q ok hp hl => ?_
  have l2 : ∀ n, MV.lo n (.tup (ps.map ofP)) = true := fun n => lo_tup (lo_pairs _)
  have wf : ∀ xs : List Int, loH (ph ns q [] ++ [MO.lst (xs.map .int)]).length (ph ns q [] ++ [MO.lst (xs.map .int)]) = true := fun xs => lo_phL (q' := q) (q := q) (tl_app tn (lo_int xs))
  have wf2 : ∀ xs ys : List Int, loH (ph ns q [] ++ [MO.lst (xs.map .int)] ++ [MO.lst (ys.map .int)]).length (ph ns q [] ++ [MO.lst (xs.map .int)] ++ [MO.lst (ys.map .int)]) = true := fun xs ys => lo_phL (q' := q) (q := q) (tl_app (tl_app tn (lo_int xs)) (lo_int ys))
  repeat array_get_dec
  have w0 : loH (ph ns q []).length (ph ns q []) = true := lo_phL tn
  generalize ph ns q [] = H at *
  refine s_frR ?_
  repeat array_get_dec
  refine ⟨small_of (by omega) (by omega), _, _, rfl, (fun i ρ h' => i ≤ many.toNat ∧ ρ = [some (.rol (ns.map .int)), some (.ref 0), some (.int many), some (.tup (ps.map ofP)), some (.ref H.length), some (.str (sgnV ps i)), none, none, none, none, none, none, none] ∧ h' = H ++ [.lst ((dueV ps i).map .int)]), ⟨Nat.zero_le _, rfl, rfl⟩, ?_, ?_⟩
  · rintro i _ _ hi ⟨_, rfl, rfl⟩
    refine ⟨_, rfl, ?_⟩
    unfold Gk06.F_law_b1
    repeat array_get_dec
    refine s_fr ?_
    repeat array_get_dec
    refine ⟨_, _, rfl, rfl, (fun rest ρ h' => ∃ (pre rs : List (Int × Int)) (o : Int) (c : Nat), ps = pre ++ rs ∧ rest = rs.map ofP ∧ pre.foldl (ptP i) (-1, 46) = (o, c) ∧ ρ = [some (.rol (ns.map .int)), some (.ref 0), some (.int many), some (.tup (ps.map ofP)), some (.ref H.length), some (.str (sgnV ps i)), some (.int (0 + i)), none, none, some (.int o), some (.str [c]), none, none] ∧ h' = H ++ [.lst ((dueV ps i).map .int)]), ⟨[], ps, -1, 46, rfl, rfl, rfl, rfl, rfl⟩, ?_, ?_⟩
    · rintro _ _ _ _ ⟨pre, rs, o, c, eb, e, hf, rfl, rfl⟩
      match rs, e, eb with
      | [], e, _ => cases e
      | (a, b) :: rs, e, eb =>
        cases e
        have eb2 : ps = (pre ++ [(a, b)]) ++ rs := by rw [eb]; simp
        have hs : (pre ++ [(a, b)]).foldl (ptP i) (-1, 46) = ptP i (o, c) (a, b) := by rw [List.foldl_append, hf]; rfl
        unfold ptP at hs
        simp only at hs
        rw [show ofP (a, b) = .tup [.int a, .int b] from rfl]
        refine ⟨_, rfl, ?_⟩
        unfold Gk06.F_law_b2
        repeat array_get_dec
        refine ws_nx (fun ρ h' => ∃ (o1 : Int) (c1 : Nat), (if a = (i : Int) then (b, 40) else (o, c)) = (o1, c1) ∧ ρ = [some (.rol (ns.map .int)), some (.ref 0), some (.int many), some (.tup (ps.map ofP)), some (.ref H.length), some (.str (sgnV ps i)), some (.int (0 + i)), none, none, some (.int o1), some (.str [c1]), some (.int a), some (.int b)] ∧ h' = H ++ [.lst ((dueV ps i).map .int)]) ?_ ?_
        · refine s_iff ?_
          repeat array_get_dec
          refine br_d (fun ha => ?_) (fun ha => ?_)
          · repeat array_get_dec
            exact ⟨b, 40, by rw [if_pos (by omega)], rfl, rfl⟩
          · repeat array_get_dec
            exact ⟨o, c, by rw [if_neg (by omega)], rfl, rfl⟩
        · rintro _ _ ⟨o1, c1, e1, rfl, rfl⟩
          rw [e1] at hs
          repeat array_get_dec
          refine s_iff ?_
          repeat array_get_dec
          refine br_d (fun ha => ?_) (fun ha => ?_)
          · repeat array_get_dec
            rw [if_pos (by omega)] at hs
            exact ⟨_, rs, a, 41, eb2, rfl, hs, rfl, rfl⟩
          · repeat array_get_dec
            rw [if_neg (by omega)] at hs
            exact ⟨_, rs, o1, c1, eb2, rfl, hs, rfl, rfl⟩
    · rintro _ _ ⟨pre, rs, o, c, eb, e, hf, rfl, rfl⟩
      match rs, e with
      | [], _ =>
      have ep : pre = ps := by rw [eb]; simp
      subst ep
      have z1 : ((dueV pre i).map MV.int).length < big := by simp [dueV]; unfold big; omega
      have z2 : (sgnV pre i).length + [c].length ≤ big := by simp [sgnV]; unfold big; omega
      repeat array_get_dec
      rw [set_0]
      repeat array_get_dec
      refine ⟨by omega, ?_, ?_⟩
      · rw [sgnV_step, hf]; rfl
      · rw [dueV_step, hf, List.map_append]; rfl
  · rintro _ _ ⟨_, rfl, rfl⟩
    have hp2 : PsOk many.toNat ps := fun p h => by have := hp p h; omega
    rw [due_row hp2, sgn_show hp2 _ (Nat.le_refl _)]
    have hrl := rowV_len many.toNat ps
    have Ro2 := Ro many ps
    have Sh2 := Sh many ps
    generalize rowV many.toNat ps = row at *
    have w1 := wf row
    have w2 := wf2 row
    repeat array_get_dec
    refine Ro2 _ _ m0 (by omega) hp w1 ?_
    have z1 : (row.map MV.int).length < big := by rw [List.length_map]; unfold big; omega
    repeat array_get_dec
    refine s_iff ?_
    repeat array_get_dec
    refine Al row _ _ _ _ (get_new rfl) (get_app (get_new rfl)) (by simp) ?_
    repeat array_get_dec
    rw [set_0]
    repeat array_get_dec
    rw [set_0]
    rw [show (row.map MV.int ++ [MV.int 5]).reverse = ((row ++ [5]).reverse).map MV.int by simp]
    have w3 := w2 (row ++ [5]).reverse
    repeat array_get_dec
    refine Sh2 _ _ m0 (by omega) hp w3 ?_
    repeat array_get_dec
    refine Ro2 _ _ m0 (by omega) hp w3 ?_
    repeat array_get_dec
    refine Al row _ _ _ _ (get_new rfl) (get_app (get_app (get_new rfl))) (by simp) ?_
    repeat array_get_dec
    exact g_bl fun _ => congrArg MV.bl (decide_eq_true rfl)
theorem plain (ns : List Int) (_ : ns.length ≤ 63) : ∃ h', callT fs "law" [.rol (ns.map .int)] [] = some (.ok (.bl true) h') :=
  plain_of rfl (law_ok (at_ rfl stream_ok) (at_ rfl draw_ok) (at_ rfl (lawPairs_ok (at_ rfl draw_ok))) (at_ rfl row_ok) (at_ rfl (show_ok (at_ rfl row_ok))) (at_ rfl alike_ok))
end Gk06
namespace Gk06
open MP PySem PySem.Spec PyProof.Rows L2
def D_F_law : Df := ⟨"law", Gk06.F_law, ["script", "pot", "many", "shape", "due", "signs", "at", "found", "told", "partner", "sign", "i", "j"], 9⟩
def D_L_alike : Df := ⟨"_law_alike", Gk06.L_alike, ["found", "due", "one"], 8⟩
def D_F_show_shape : Df := ⟨"show_shape", SH.show_shape, ["many", "shape", "signs", "at", "other"], 3⟩
def D_F_row_of : Df := ⟨"row_of", SH.row_of, ["many", "shape", "row", "i", "j"], 1⟩
def D_L_pairs : Df := ⟨"_law_pairs", SH.law_pairs, ["pot", "many", "begun", "pairs", "at", "way"], 7⟩
def D_L_draw : Df := ⟨"_law_draw", SH.law_draw, ["pot", "many", "drawn", "mixed", "cell"], 6⟩
def D_L_stream : Df := ⟨"_law_stream", SH.law_stream, ["script"], 5⟩
def dl : List Df := [D_F_law, D_L_alike, D_F_show_shape, D_F_row_of, D_L_pairs, D_L_draw, D_L_stream]
def cs : List (String × List Nat) := []
theorem looked : chkDs PySem.Challenge.pw_hoopcord_k06_rows_and_texts_told cs dl = true := by decide +kernel
abbrev hk : PySem.W.Hook := He.hookD 4 (faD cs dl) (fnD PySem.Challenge.pw_hoopcord_k06_rows_and_texts_told dl)
def ob (s : PySem.W.SharedT) : He.AlD := He.obsDG 4 (faD cs dl) (fnD PySem.Challenge.pw_hoopcord_k06_rows_and_texts_told dl) (HandSHeadRun.getT s)
theorem ob_as (s : PySem.W.SharedT) : ob s = hk.obs s.abs := He.obsDG_eq (HandSHeadRun.getT_eq s)
def loose : List Str := [Str.ofString "row_of", Str.ofString "show_shape", Str.ofString "_law_stream", Str.ofString "_law_draw", Str.ofString "_law_pairs", Str.ofString "_law_alike"]
theorem ran (w : World) : HandSHeadRun.RunEq (PySem.W.OpenLaw.row PySem.Challenge.rw_hoopcord_k06_rows_and_texts_told) (PySem.W.view (PySem.W.OpenLaw.row PySem.Challenge.rw_hoopcord_k06_rows_and_texts_told).prog [9]) hk ob 700 loose w := by
  intro os
  kernel_rfl
end Gk06
open PySem PySem.W PySem.Calls PyProof.Rows
theorem PySem.Challenge.cw_hoopcord_k06_rows_and_texts_told_holds : PySem.Challenge.rw_hoopcord_k06_rows_and_texts_told.Holds := by
  w_on; o_law
  refine HandSHeadRun.head_any (r := OpenLaw.row PySem.Challenge.rw_hoopcord_k06_rows_and_texts_told) (q := view (OpenLaw.row PySem.Challenge.rw_hoopcord_k06_rows_and_texts_told).prog [9]) (H := Gk06.hk) (ob := Gk06.ob) (M := 700) (loose := Gk06.loose) (d := HandSHeadRun.topDef (OpenLaw.row PySem.Challenge.rw_hoopcord_k06_rows_and_texts_told).prog 9) (kwd := []) Gk06.ob_as
    (by kernel_rfl) (fun s => by kernel_rfl) Gk06.ran (by kernel_rfl) (by kernel_rfl) (by kernel_rfl) (by rfl) (by first | assumption | decide +kernel) (by decide +kernel) ⟨rfl, rfl, rfl, rfl, rfl, by decide +kernel⟩ ?hw ?hc
  case hw => w_witness2
  case hc => exact MP.row_end (cs := Gk06.cs) (d := Gk06.D_F_law) (ds := Gk06.dl.tail) rfl (by kernel_rfl) ⟨rfl, by decide, by decide⟩ rfl rfl rfl (by kernel_rfl) Gk06.looked Gk06.plain
