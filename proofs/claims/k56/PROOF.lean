import PyProof.Rows.All
import Wide.All
import OpenK.AllK
import Wide.FinOn
import HandS.ForMost
import HandS.Exc
import HandS.TryOnly
import HandS.ExcCtx
import HandS.SuiteRaise
import HandS.HotCalls
import HandS.ExcIs
import HandS.Text
import HandS.TupMul
import HandS.SortKw
import HandS.ExcOwn
import HandS.WordsExc
import HandS.Conv
import HandS.Deep
import HandS.IsInst
import HandS.NoneIn
import HandS.More
import KE.KDictKeyed
import KE.KExcLine
import KE.SortData
import KE.DataMinMax
import PySem.Challenge.RW_claspwork_k56_whole_refusals_apart
set_option Elab.async false
set_option linter.all false
set_option maxRecDepth 100000
/-! a small language for the fragment of Python in use, and its interpreter -/
namespace Cw
open PySem PySem.Spec PyProof.Rows L2

/-- values of the interpreter: tuples and frozen lists are pure, other objects are places of the store -/
inductive U where
  | non | bl (b : Bool) | int (i : Int) | str (s : Str) | tup (l : List U) | fl (l : List U) | ref (i : Nat) | err (c : Nat)
/-- objects of the store -/
inductive O where
  | lst (l : List U) | dk (l : List (Key × U)) | dn (l : List (NestedKey × U)) | ins (c : Nat) (fs : List (Str × U))

inductive Bop where | add | sub | mul | fdiv | mod | pow
inductive Cop where | eq | ne | lt | le | gt | ge | isin | notin
inductive Blt where | len | abs | min2 | max2 | min1 | int | str | sum | any | all | sorted | sortedR | list | tuple
inductive Ty where | int | bool | str | list | tuple | exc (c : Nat)
inductive Mth where | append | extend | pop | popAt | reverse | clear | insert | remove | index | count | get2 | join | split | partition
inductive Tx where | split | join | part
inductive Tgt where | var (i : Nat) | tup (l : List Nat)

mutual
inductive CE where
  | var (i : Nat) | cst (u : U) | glb (x : Str) (u : U)
  | tup (es : CEs) | lst (es : CEs) | dk0 | dn0 | dsp (ks : List Str) (es : CEs)
  | bin (op : Bop) (a b : CE) | neg (a : CE) | cmp (op : Cop) (a b : CE) | chain (o1 o2 : Cop) (a b c : CE)
  | isN (a : CE) | noN (a : CE) | nt (a : CE) | and_ (a b : CE) | or_ (a b : CE) | ife (t a b : CE)
  | idx (a i : CE) | slA (a : CE) | slL (a lo : CE) | slU (a hi : CE) | slB (a lo hi : CE)
  | call (f : Nat) (es : CEs) | blt (b : Blt) (es : CEs) | lrg (es : CEs) | trg (es : CEs) | isI (a : CE) (t : Ty) | isX (i : Nat) (c : Option Nat) | tx (op : Tx) (a b : CE) | srev (a : CE)
  | mth (m : Mth) (o : CE) (es : CEs)
  | comp (elt : CE) (g : Tgt) (it : CI) | compIf (elt : CE) (g : Tgt) (it : CI) (cond : CE)
inductive CEs where | nil | cons (e : CE) (es : CEs)
inductive CI where | seq (a : CE) | rng1 (a : CE) | rng2 (a b : CE) | rng3 (a b c : CE) | enum (a : CE) | rev (a : CE) | keys (a : CE) | items (a : CE)
end

mutual
inductive CS where
  | asg (t : Tgt) (e : CE) | par (i j : Nat) (a b : CE) | sub (o i e : CE)
  | ex (e : CE) | ret (e : CE) | ret0 | iff (t : CE) (a b : CSs) | whl (t : CE) (b : CSs) | for_ (g : Tgt) (it : CI) (b : CSs)
  | brk | cnt | pass | raise (c : Nat) | tryA (b : CSs) (c i : Nat) (s : CSs) | tryR (b : CSs) (c d : Nat)
inductive CSs where | nil | cons (s : CS) (ss : CSs)
end

abbrev Env := List (Option U)
abbrev Sto := List O
inductive R (α : Type) where
  | ok (a : α) (st : Sto) | exc (c : Nat) (st : Sto)
abbrev M (α : Type) := Option (R α)
def M.bind {α β : Type} (x : M α) (k : α → Sto → M β) : M β := match x with
  | none => none
  | some (.exc c st) => some (.exc c st)
  | some (.ok a st) => k a st

/-! ### data -/
abbrev LIM : Nat := 16777216
mutual
/-- a value as data; f tells the references' data -/
def dat (f : Nat → Option PyData) : U → Option PyData
  | .non => some .none
  | .bl b => some (.bool b)
  | .int i => some (.int i)
  | .str s => some (.str s)
  | .tup l => match dats f l with | some ds => some (.tuple ds) | none => none
  | .fl l => match dats f l with | some ds => some (.list ds) | none => none
  | .ref i => f i
  | .err _ => none
def dats (f : Nat → Option PyData) : List U → Option (List PyData)
  | [] => some []
  | u :: us => match dat f u with
    | none => none
    | some x => match dats f us with | some xs => some (x :: xs) | none => none
end
/-- the data of the object at a place, so deep -/
def datR (st : Sto) : Nat → Nat → Option PyData
  | 0, _ => none
  | d + 1, i => match st[i]? with
    | some (.lst l) => match dats (datR st d) l with | some ds => some (.list ds) | none => none
    | _ => none
abbrev datU (st : Sto) (u : U) : Option PyData := dat (datR st 6) u

/-- the items of a list, a frozen list, a tuple -/
def seqL (st : Sto) : U → Option (List U)
  | .ref i => match st[i]? with | some (.lst l) => some l | _ => none
  | .fl l => some l
  | _ => none
def seqU (st : Sto) : U → Option (List U)
  | .tup l => some l
  | u => seqL st u

/-! ### keys -/
def keyU : U → Option Key
  | .int i => some (.inl i)
  | .str s => some (.inr s)
  | _ => none
def uKey : Key → U
  | .inl i => .int i
  | .inr s => .str s
mutual
def nkey : U → Option NestedKey
  | .non => some .none
  | .int i => some (.num i)
  | .str s => some (.text s)
  | .tup l => match nkeys l with | some ks => some (.tup ks) | none => none
  | _ => none
def nkeys : List U → Option (List NestedKey)
  | [] => some []
  | u :: us => match nkey u with
    | none => none
    | some k => match nkeys us with | some ks => some (k :: ks) | none => none
end
mutual
def ukey : NestedKey → U
  | .none => .non
  | .num i => .int i
  | .text s => .str s
  | .tup ks => .tup (ukeys ks)
def ukeys : List NestedKey → List U
  | [] => []
  | k :: ks => ukey k :: ukeys ks
end
/-- a tuple as a key -/
def tkey : U → Option NestedKey
  | .tup l => match nkey (.tup l) with
    | some k => if k.depth ≤ 8 then some k else none
    | none => none
  | _ => none
section
variable {κ : Type} [DecidableEq κ]
def kget (kvs : List (κ × U)) (k : κ) : Option U := match kvs with
  | [] => none
  | (j, v) :: r => if j = k then some v else kget r k
def kput (kvs : List (κ × U)) (k : κ) (v : U) : List (κ × U) := if (kget kvs k).isSome = true then kvs.map (fun p => if p.1 = k then (p.1, v) else p) else kvs ++ [(k, v)]
end

/-! ### operators -/
def binU (op : Bop) (a b : U) (st : Sto) : M U := match op, a, b with
  | .add, .int i, .int j => some (.ok (.int (i + j)) st)
  | .add, .str x, .str y => if x.length + y.length ≤ LIM then some (.ok (.str (x ++ y)) st) else none
  | .add, .ref i, .ref j => match st[i]?, st[j]? with
    | some (.lst xs), some (.lst ys) => if xs.length + ys.length ≤ LIM then some (.ok (.ref st.length) (st ++ [.lst (xs ++ ys)])) else none
    | _, _ => none
  | .add, .tup xs, .tup ys => if xs.length + ys.length ≤ LIM ∧ xs ≠ [] then some (.ok (.tup (xs ++ ys)) st) else none
  | .sub, .int i, .int j => some (.ok (.int (i - j)) st)
  | .mul, .int i, .int j => if (-(2 ^ 64) < i ∧ i < 2 ^ 64) ∨ (-(2 ^ 64) < j ∧ j < 2 ^ 64) then some (.ok (.int (i * j)) st) else none
  | .mul, .ref i, .int k => match st[i]? with
    | some (.lst xs) => if -(2 ^ 63) ≤ k ∧ k < 2 ^ 63 ∧ xs.length * k.toNat ≤ LIM then some (.ok (.ref st.length) (st ++ [.lst (List.replicate k.toNat xs).flatten])) else none
    | _ => none
  | .fdiv, .int i, .int j => if 0 < j ∧ j < 1073741824 then some (.ok (.int (i / j)) st) else none
  | .mod, .int i, .int j => if 0 < j then some (.ok (.int (i % j)) st) else none
  | .pow, .int i, .int j => if 0 ≤ j ∧ j ≤ 1000000 ∧ i.natAbs < 2 ^ 64 then some (.ok (.int (i ^ j.toNat)) st) else none
  | .mul, .tup xs, .int k => if xs ≠ [] ∧ 1 ≤ k ∧ k ≤ 1000 ∧ xs.length ≤ 1000 then some (.ok (.tup (List.replicate k.toNat xs).flatten) st) else none
  | _, _, _ => none
/-- the scalar values, as V -/
def sV : U → Option V
  | .non => some .non
  | .bl b => some (.bl b)
  | .int i => some (.int i)
  | .str s => some (.str s)
  | _ => none
def eqU (st : Sto) (a b : U) : Option Bool := match sV a, sV b with
  | some x, some y => if scal x y = true then some (decide (x = y)) else none
  | _, _ => match datU st a, datU st b with
    | some d, some e => if SeqAt.shaped d = true ∧ SeqAt.shaped e = true then some (PyData.eqv d e) else none
    | _, _ => none
def isNon : PyData → Bool
  | .none => true
  | _ => false
def isTup : U → Bool
  | .tup _ => true
  | _ => false
def intsU : List U → Option (List Int)
  | [] => some []
  | .int i :: r => match intsU r with | some is => some (i :: is) | none => none
  | _ => none
def ltU (st : Sto) (a b : U) : Option Bool := match a, b with
  | .int i, .int j => some (decide (i < j))
  | _, _ => match datU st a, datU st b with
    | some d, some e => if PyData.depth d ≤ 64 ∧ (isTup a = isTup b) ∧ W.alike d e = true ∧ isNon d = false then some (W.dataLt d e) else none
    | _, _ => none
def inU (st : Sto) (a c : U) : Option Bool := match c with
  | .str y => match a with
    | .str x => some (!(Builtin.Str.occurrences y x 0 y.length 1).isEmpty)
    | _ => none
  | .tup l => match sV a with
    | some x => match l.mapM sV with
      | some xs => if flatV x = true ∧ xs.all flatV = true then some (inV x xs) else none
      | none => none
    | none => none
  | .fl _ => none
  | .ref i => match st[i]? with
    | some (.lst l) => match datU st a, dats (datR st 5) l with
      | some d, some ds => if SeqAt.shaped d = true ∧ SeqAt.shaped (.list ds) = true then some (ds.any fun z => PyData.eqv z d) else none
      | _, _ => none
    | some (.dk kvs) => match keyU a with
      | some k => some (kget kvs k).isSome
      | none => none
    | some (.dn kvs) => match tkey a with
      | some k => some (kget kvs k).isSome
      | none => none
    | _ => none
  | _ => none
def cmpU (op : Cop) (a b : U) (st : Sto) : M U :=
  let r : Option Bool := match op with
    | .eq => eqU st a b
    | .ne => (eqU st a b).map (!·)
    | .lt => ltU st a b
    | .le => match a, b with
      | .int i, .int j => some (decide (i ≤ j))
      | _, _ => none
    | .gt => match a, b with
      | .int i, .int j => some (decide (j < i))
      | _, _ => none
    | .ge => match a, b with
      | .int i, .int j => some (decide (j ≤ i))
      | _, _ => none
    | .isin => inU st a b
    | .notin => (inU st a b).map (!·)
  match r with
  | some c => some (.ok (.bl c) st)
  | none => none
def idxU (a i : U) (st : Sto) : M U := match a with
  | .ref n => match st[n]? with
    | some (.lst l) => match i with
      | .int k => match atI l k with | some v => some (.ok v st) | none => none
      | _ => none
    | some (.dk kvs) => match keyU i with
      | some k => match kget kvs k with | some v => some (.ok v st) | none => none
      | none => none
    | some (.dn kvs) => match tkey i with
      | some k => match kget kvs k with | some v => some (.ok v st) | none => none
      | none => none
    | _ => none
  | .tup l => match i with
    | .int k => match atI l k with | some v => some (.ok v st) | none => none
    | _ => none
  | .fl l => match i with
    | .int k => match atI l k with | some v => some (.ok v st) | none => none
    | _ => none
  | .str x => match i with
    | .int k => if x.length ≤ LIM then match atI x.cps.toList k with | some c => some (.ok (.str ⟨#[c]⟩) st) | none => none else none
    | _ => none
  | _ => none
def cutL {α : Type} (xs : List α) (lo hi : Option Int) : List α := (xs.drop (HT.sIx xs.length 0 lo)).take (HT.sIx xs.length xs.length hi - HT.sIx xs.length 0 lo)
def sliceU (a : U) (lo hi : Option Int) (st : Sto) : M U := match a with
  | .ref n => match st[n]? with
    | some (.lst l) => some (.ok (.ref st.length) (st ++ [.lst (cutL l lo hi)]))
    | _ => none
  | .fl l => some (.ok (.ref st.length) (st ++ [.lst (cutL l lo hi)]))
  | .tup l => if HT.sIx l.length 0 lo = 0 ∧ HT.sIx l.length l.length hi = l.length then none else some (.ok (.tup (cutL l lo hi)) st)
  | .str x => if x.length ≤ LIM then some (.ok (.str ⟨(cutL x.cps.toList lo hi).toArray⟩) st) else none
  | _ => none
/-- insertion sort -/
def ins {α : Type} (le : α → α → Bool) (x : α) : List α → List α
  | [] => [x]
  | y :: r => if le x y then x :: y :: r else y :: ins le x r
def isort {α : Type} (le : α → α → Bool) : List α → List α
  | [] => []
  | x :: r => ins le x (isort le r)
def allAlike (ds : List PyData) : Bool := ds.all fun d => ds.all fun e => W.alike d e
def sortableB (ds : List PyData) : Bool := (ds.all fun d => match d with | .tuple (_ :: _) => true | _ => false) || ds.all fun d => match d with | .none => false | .tuple _ => false | _ => true
def datD (u : U) : PyData := (dat (fun _ => none) u).getD .none
def sortU (rev : Bool) (l : List U) : Option (List U) := match dats (fun _ => none) l with
  | some ds => if allAlike ds && sortableB ds && decide (ds.length ≤ LIM) && ds.all (fun d => decide (PyData.depth d ≤ 64)) then some (isort (fun a b => W.dataLe rev datD a b) l) else none
  | none => none
def minI : Int → List Int → Int
  | a, [] => a
  | a, b :: r => minI (if b < a then b else a) r
def blsU : List U → Option (List Bool)
  | [] => some []
  | .bl b :: r => match blsU r with | some bs => some (b :: bs) | none => none
  | _ => none
def keysU (st : Sto) (i : Nat) : Option (List U) := match st[i]? with
  | some (.dk kvs) => some (kvs.map fun p => uKey p.1)
  | some (.dn kvs) => some (kvs.map fun p => ukey p.1)
  | _ => none
def bltU (b : Blt) (us : List U) (st : Sto) : M U := match b, us with
  | .len, [.str x] => if x.length ≤ LIM then some (.ok (.int x.length) st) else none
  | .len, [a] => match seqU st a with | some l => some (.ok (.int l.length) st) | none => none
  | .abs, [.int i] => some (.ok (.int (if i < 0 then -i else i)) st)
  | .min2, [.int i, .int j] => some (.ok (.int (if j < i then j else i)) st)
  | .max2, [.int i, .int j] => some (.ok (.int (if j > i then j else i)) st)
  | .min1, [.ref i] => match st[i]? with
    | some (.lst l) => match intsU l with | some (a :: r) => some (.ok (.int (minI a r)) st) | _ => none
    | _ => none
  | .int, [.int i] => some (.ok (.int i) st)
  | .int, [.bl k] => some (.ok (.int (if k then 1 else 0)) st)
  | .str, [.int i] => if i.natAbs.log2 < 1920 then some (.ok (.str (toString i)) st) else none
  | .sum, [.ref i] => match st[i]? with
    | some (.lst l) => match intsU l with | some is => some (.ok (.int is.sum) st) | none => none
    | _ => none
  | .any, [.ref i] => match st[i]? with
    | some (.lst l) => match blsU l with | some bs => some (.ok (.bl (bs.any id)) st) | none => none
    | _ => none
  | .all, [.ref i] => match st[i]? with
    | some (.lst l) => match blsU l with | some bs => some (.ok (.bl (bs.all id)) st) | none => none
    | _ => none
  | .sorted, [.ref i] => match st[i]? with
    | some (.lst l) => match sortU false l with | some l' => some (.ok (.ref st.length) (st ++ [.lst l'])) | none => none
    | _ => none
  | .sortedR, [.ref i] => match st[i]? with
    | some (.lst l) => match sortU true l with | some l' => some (.ok (.ref st.length) (st ++ [.lst l'])) | none => none
    | _ => none
  | .list, [.ref i] => match st[i]? with
    | some (.lst l) => some (.ok (.ref st.length) (st ++ [.lst l]))
    | _ => match keysU st i with | some l => some (.ok (.ref st.length) (st ++ [.lst l])) | none => none
  | .list, [.fl l] => some (.ok (.ref st.length) (st ++ [.lst l]))
  | .list, [.tup l] => some (.ok (.ref st.length) (st ++ [.lst l]))
  | .tuple, [.tup l] => some (.ok (.tup l) st)
  | .tuple, [.fl l] => some (.ok (.tup l) st)
  | .tuple, [.ref i] => match st[i]? with
    | some (.lst l) => some (.ok (.tup l) st)
    | _ => none
  | .int, [.str x] => match PySem.intText? x with | some n => if x.length ≤ 640 then some (.ok (.int n) st) else none | none => none
  | _, _ => none
def strsU : List U → Option (List Str)
  | [] => some []
  | .str s :: r => match strsU r with | some ss => some (s :: ss) | none => none
  | _ => none
def isStr : U → Bool
  | .str _ => true
  | _ => false
def txU (op : Tx) (x y : U) (st : Sto) : M U := match op, x, y with
  | .split, .str a, .str b => if (b.length == 0) = false ∧ a.length + 2 ≤ LIM then some (.ok (.ref st.length) (st ++ [.lst ((Txt.split a b).map U.str)])) else none
  | .join, .str a, .ref i => match st[i]? with
    | some (.lst l) => match strsU l with
      | some ys => if (ys.map (·.length)).sum + ys.length * a.length ≤ LIM then some (.ok (.str (Txt.join a ys)) st) else none
      | none => none
    | _ => none
  | .part, .str a, .str b => if (b.length == 0) = false ∧ a.length ≤ LIM then some (.ok (.tup [.str (Txt.partition a b).1, .str (Txt.partition a b).2.1, .str (Txt.partition a b).2.2]) st) else none
  | _, _, _ => none
def srevU (x : U) (st : Sto) : M U := match x with
  | .ref i => match st[i]? with
    | some (.lst l) => match intsU l with
      | some is => some (.ok (.ref st.length) (st ++ [.lst ((isort (fun a b => decide (b ≤ a)) is).map U.int)]))
      | none => none
    | _ => none
  | _ => none
/-- a display's keys and values -/
def dispU (D : Nat) (ks : List Str) (us : List U) (st : Sto) : M U := match st[D]? with
  | some (.dk []) => if ks.length = us.length ∧ ks.length ≤ 15 then some (.ok (.ref D) (st.set D (.dk ((ks.zip us).foldl (fun acc p => kput acc (.inr p.1) p.2) [])))) else none
  | _ => none
def rgI (i j : Int) : Bool := decide (-(2 ^ 62) ≤ i ∧ i < 2 ^ 62 ∧ -(2 ^ 62) ≤ j ∧ j < 2 ^ 62)
def rgL (a b : Int) : List U := (List.range (b - a).toNat).map fun i => U.int (a + (i : Nat))
def rgArgs : List U → Option (Int × Int)
  | [.int j] => if rgI 0 j && decide (j.toNat ≤ LIM) then some (0, j) else none
  | [.int i, .int j] => if rgI i j && decide ((j - i).toNat ≤ LIM) then some (i, j) else none
  | _ => none
def isIU (u : U) (t : Ty) (st : Sto) : Option Bool := match u with
  | .non => match t with | .exc _ => none | _ => some false
  | .bl _ => match t with | .int => some true | .bool => some true | .exc _ => none | _ => some false
  | .int _ => match t with | .int => some true | .exc _ => none | _ => some false
  | .str _ => match t with | .str => some true | .exc _ => none | _ => some false
  | .tup _ => match t with | .tuple => some true | .exc _ => none | _ => some false
  | .fl _ => none
  | .ref i => match st[i]? with
    | some (.lst _) => match t with | .list => some true | .exc _ => none | _ => some false
    | _ => none
  | .err _ => none
def mthU (m : Mth) (o : U) (us : List U) (st : Sto) : M U := match o with
  | .ref n => match st[n]? with
    | some (.lst l) => match m, us with
      | .append, [u] => if l.length < LIM then some (.ok .non (st.set n (.lst (l ++ [u])))) else none
      | .extend, [.ref j] => match st[j]? with
        | some (.lst l') => if l.length + l'.length ≤ LIM then some (.ok .non (st.set n (.lst (l ++ l')))) else none
        | _ => none
      | .pop, [] => match l[l.length - 1]? with | some v => some (.ok v (st.set n (.lst l.dropLast))) | none => none
      | .popAt, [.int i] => if -(2 ^ 63) ≤ i ∧ i < 2 ^ 63 then match ixN l.length i with
          | some k => match l[k]? with | some v => some (.ok v (st.set n (.lst (l.eraseIdx k)))) | none => none
          | none => none
        else none
      | .reverse, [] => some (.ok .non (st.set n (.lst l.reverse)))
      | .clear, [] => some (.ok .non (st.set n (.lst [])))
      | _, _ => none
    | _ => none
  | _ => none
def subU (o i v : U) (st : Sto) : Option Sto := match o with
  | .ref n => match st[n]? with
    | some (.lst l) => match i with
      | .int k => match ixN l.length k with | some j => some (st.set n (.lst (l.set j v))) | none => none
      | _ => none
    | some (.dk kvs) => match keyU i with
      | some k => if kvs.length < LIM then some (st.set n (.dk (kput kvs k v))) else none
      | none => none
    | some (.dn kvs) => match tkey i with
      | some k => if kvs.length < LIM then some (st.set n (.dn (kput kvs k v))) else none
      | none => none
    | _ => none
  | _ => none

/-! ### what is walked -/
inductive Src where
  | l (i : Nat) | t (us : List U) | r (lo c : Int) (n : Nat) | s (x : Str) | en (i : Nat) | ent (us : List U) | rl (i n : Nat)
/-- none: stuck; some none: the end -/
def item (s : Src) (st : Sto) (j : Nat) : Option (Option U) := match s with
  | .l i => match st[i]? with | some (.lst l) => some l[j]? | _ => none
  | .t us => some us[j]?
  | .r lo c n => some (if j < n then some (.int (lo + (j : Nat) * c)) else none)
  | .s x => some (match x.cps[j]? with | some c => some (.str ⟨#[c]⟩) | none => none)
  | .en i => match st[i]? with | some (.lst l) => some (match l[j]? with | some u => some (.tup [.int (j : Nat), u]) | none => none) | _ => none
  | .ent us => some (match us[j]? with | some u => some (.tup [.int (j : Nat), u]) | none => none)
  | .rl i n => if j < n then match st[i]? with
      | some (.lst l) => match l[n - 1 - j]? with | some u => some (some u) | none => none
      | _ => none
    else some none
def srcU (u : U) (st : Sto) : M Src := match u with
  | .ref i => match st[i]? with | some (.lst _) => some (.ok (.l i) st) | _ => none
  | .fl l => some (.ok (.t l) st)
  | .tup l => some (.ok (.t l) st)
  | .str x => some (.ok (.s x) st)
  | _ => none
def rng1U (u : U) (st : Sto) : M Src := match u with
  | .int j => if rgI 0 j then some (.ok (.r 0 1 j.toNat) st) else none
  | _ => none
def rng2U (u v : U) (st : Sto) : M Src := match u, v with
  | .int i, .int j => if rgI i j then some (.ok (.r i 1 (j - i).toNat) st) else none
  | _, _ => none
def rng3U (u v w : U) (st : Sto) : M Src := match u, v, w with
  | .int i, .int j, .int c => if rgI i j && decide (c = -1) then some (.ok (.r i (-1) (i - j).toNat) st) else none
  | _, _, _ => none
def enumU (u : U) (st : Sto) : M Src := match u with
  | .ref i => match st[i]? with | some (.lst _) => some (.ok (.en i) st) | _ => none
  | _ => none
def revU (u : U) (st : Sto) : M Src := match u with
  | .ref i => match st[i]? with | some (.lst l) => some (.ok (.rl i l.length) st) | _ => none
  | _ => none
def setVs : List Nat → List U → Env → Option Env
  | [], [], env => some env
  | i :: is, u :: us, env => setVs is us (env.set i (some u))
  | _, _, _ => none
def setT (g : Tgt) (u : U) (st : Sto) (env : Env) : Option Env := match g with
  | .var i => some (env.set i (some u))
  | .tup is => match u with
    | .tup us => setVs is us env
    | _ => none
def ownT : Tgt → List Nat
  | .var i => [i]
  | .tup is => is
def wipeE (env : Env) : List Nat → Env
  | [] => env
  | v :: vs => (wipeE env vs).set v none
def compL (src : Src) (D : Nat) (turn : U → Sto → M (Option U)) : Nat → Nat → Sto → M U
  | 0, _, _ => none
  | n + 1, j, st => match item src st j with
    | none => none
    | some none => some (.ok (.ref D) st)
    | some (some u) => match turn u st with
      | some (.ok none st') => compL src D turn n (j + 1) st'
      | some (.ok (some x) st') => match st'[D]? with
        | some (.lst acc) => if acc.length < LIM then compL src D turn n (j + 1) (st'.set D (.lst (acc ++ [x]))) else none
        | _ => none
      | _ => none
/-- what a method is asked of -/
def rcv (x : U) (st : Sto) : Bool := match x with
  | .ref n => match st[n]? with | some (.lst _) => true | _ => false
  | _ => false
def isNo : U → Bool
  | .non => true
  | _ => false
structure Cl where
  call : Nat → List U → Sto → M U
  fu : Nat
  isx : Nat → Nat → Option Bool
def tst (x : M U) : M Bool := match x with
  | some (.ok (.bl b) st) => some (.ok b st)
  | some (.exc c st) => some (.exc c st)
  | _ => none
mutual
def ev (C : Cl) : CE → Env → Sto → M U
  | .var i, env, st => match env[i]? with | some (some u) => some (.ok u st) | _ => none
  | .cst u, _, st => some (.ok u st)
  | .glb _ u, _, st => some (.ok u st)
  | .tup es, env, st => (evs C es env st).bind fun us st => if us.length ≤ LIM then some (.ok (.tup us) st) else none
  | .lst es, env, st => (evs C es env st).bind fun us st => if us.length ≤ LIM then some (.ok (.ref st.length) (st ++ [.lst us])) else none
  | .dk0, _, st => some (.ok (.ref st.length) (st ++ [.dk []]))
  | .dn0, _, st => some (.ok (.ref st.length) (st ++ [.dn []]))
  | .dsp ks es, env, st => (evs C es env (st ++ [.dk []])).bind fun us st1 => dispU st.length ks us st1
  | .bin op a b, env, st => (ev C a env st).bind fun x st => (ev C b env st).bind fun y st => binU op x y st
  | .neg a, env, st => (ev C a env st).bind fun x st => match x with | .int i => some (.ok (.int (-i)) st) | _ => none
  | .cmp op a b, env, st => (ev C a env st).bind fun x st => (ev C b env st).bind fun y st => cmpU op x y st
  | .chain o1 o2 a b c, env, st => (ev C a env st).bind fun x st => (ev C b env st).bind fun y st => (tst (cmpU o1 x y st)).bind fun k st => if k = true then (ev C c env st).bind fun z st => cmpU o2 y z st else some (.ok (.bl false) st)
  | .isN a, env, st => (ev C a env st).bind fun x st => some (.ok (.bl (isNo x)) st)
  | .noN a, env, st => (ev C a env st).bind fun x st => some (.ok (.bl (!isNo x)) st)
  | .nt a, env, st => (tst (ev C a env st)).bind fun b st => some (.ok (.bl (!b)) st)
  | .and_ a b, env, st => (tst (ev C a env st)).bind fun c st => if c = true then (tst (ev C b env st)).bind fun d st => some (.ok (.bl d) st) else some (.ok (.bl false) st)
  | .or_ a b, env, st => (tst (ev C a env st)).bind fun c st => if c = true then some (.ok (.bl true) st) else (tst (ev C b env st)).bind fun d st => some (.ok (.bl d) st)
  | .ife t a b, env, st => (tst (ev C t env st)).bind fun c st => if c = true then ev C a env st else ev C b env st
  | .idx a i, env, st => (ev C a env st).bind fun x st => (ev C i env st).bind fun y st => idxU x y st
  | .slA a, env, st => (ev C a env st).bind fun x st => sliceU x none none st
  | .slL a lo, env, st => (ev C a env st).bind fun x st => (ev C lo env st).bind fun y st => match y with | .int l => sliceU x (some l) none st | _ => none
  | .slU a hi, env, st => (ev C a env st).bind fun x st => (ev C hi env st).bind fun y st => match y with | .int h => sliceU x none (some h) st | _ => none
  | .slB a lo hi, env, st => (ev C a env st).bind fun x st => (ev C lo env st).bind fun y st => match y with
    | .int l => (ev C hi env st).bind fun z st => match z with | .int h => sliceU x (some l) (some h) st | _ => none
    | _ => none
  | .call f es, env, st => (evs C es env st).bind fun us st => C.call f us st
  | .blt b es, env, st => (evs C es env st).bind fun us st => bltU b us st
  | .lrg es, env, st => (evs C es env st).bind fun us st => match rgArgs us with | some (a, b) => some (.ok (.ref st.length) (st ++ [.lst (rgL a b)])) | none => none
  | .trg es, env, st => (evs C es env st).bind fun us st => match rgArgs us with | some (a, b) => some (.ok (.tup (rgL a b)) st) | none => none
  | .isI a t, env, st => (ev C a env st).bind fun x st => match isIU x t st with | some b => some (.ok (.bl b) st) | none => none
  | .tx op a b, env, st => (ev C a env st).bind fun x st => if isStr x = true then (ev C b env st).bind fun y st => txU op x y st else none
  | .srev a, env, st => (ev C a env st).bind srevU
  | .isX i c, env, st => match env[i]? with
    | some (some (.err k)) => match (match c with | some c => C.isx k c | none => some true) with | some b => some (.ok (.bl b) st) | none => none
    | _ => none
  | .mth m o es, env, st => (ev C o env st).bind fun x st => if rcv x st = true then (evs C es env st).bind fun us st => mthU m x us st else none
  | .comp elt g it, env, st => (evI C it env st).bind fun src st => compL src st.length (fun u st => match setT g u st (wipeE env (ownT g)) with
      | some env' => (ev C elt env' st).bind fun x st => some (.ok (some x) st)
      | none => none) C.fu 0 (st ++ [.lst []])
  | .compIf elt g it c, env, st => (evI C it env st).bind fun src st => compL src st.length (fun u st => match setT g u st (wipeE env (ownT g)) with
      | some env' => (tst (ev C c env' st)).bind fun b st => if b = true then (ev C elt env' st).bind fun x st => some (.ok (some x) st) else some (.ok none st)
      | none => none) C.fu 0 (st ++ [.lst []])
def evs (C : Cl) : CEs → Env → Sto → M (List U)
  | .nil, _, st => some (.ok [] st)
  | .cons e es, env, st => (ev C e env st).bind fun x st => (evs C es env st).bind fun xs st => some (.ok (x :: xs) st)
def evI (C : Cl) : CI → Env → Sto → M Src
  | .seq a, env, st => (ev C a env st).bind srcU
  | .rng1 a, env, st => (ev C a env st).bind rng1U
  | .rng2 a b, env, st => (ev C a env st).bind fun x st => (ev C b env st).bind fun y st => rng2U x y st
  | .rng3 a b c, env, st => (ev C a env st).bind fun x st => (ev C b env st).bind fun y st => (ev C c env st).bind fun z st => rng3U x y z st
  | .enum a, env, st => (ev C a env st).bind enumU
  | .rev a, env, st => (ev C a env st).bind revU
  | .keys _, _, _ => none
  | .items _, _, _ => none
end

/-! ### no exception within -/
mutual
def cleanU : U → Bool
  | .err _ => false
  | .tup l => cleanUs l
  | .fl l => cleanUs l
  | _ => true
def cleanUs : List U → Bool
  | [] => true
  | u :: us => cleanU u && cleanUs us
end
def cleanO : O → Bool
  | .lst l => cleanUs l
  | .dk kvs => kvs.all fun p => cleanU p.2
  | .dn kvs => kvs.all fun p => cleanU p.2
  | .ins _ fs => fs.all fun p => cleanU p.2
def cleanS (st : Sto) : Bool := st.all cleanO
def cleanE (env : Env) : Bool := env.all fun o => match o with | some u => cleanU u | none => true

/-! ### statements -/
inductive F where
  | nx | br | ct | rt (u : U)
def cleanF : F → Bool
  | .rt u => cleanU u
  | _ => true
inductive RS where
  | ok (f : F) (env : Env) (st : Sto) | exc (c : Nat) (env : Env) (st : Sto)
/-- a suite, at its entry and its end -/
def inS (k i : Nat) (suite : Env → Sto → Option RS) (env : Env) (st : Sto) : Option RS := if (cleanE env && cleanS st) = true then match suite (env.set i (some (.err k))) st with
    | some (.ok f env2 st2) => if (cleanE (env2.set i none) && cleanS st2 && cleanF f) = true then some (.ok f (env2.set i none) st2) else none
    | _ => none
  else none
def M.st {α : Type} (x : M α) (env : Env) (k : α → Sto → Option RS) : Option RS := match x with
  | none => none
  | some (.exc c st) => some (.exc c env st)
  | some (.ok a st) => k a st
def forL (src : Src) (g : Tgt) (body : Env → Sto → Option RS) : Nat → Nat → Env → Sto → Option RS
  | 0, _, _, _ => none
  | n + 1, j, env, st => match item src st j with
    | none => none
    | some none => some (.ok .nx env st)
    | some (some u) => match setT g u st env with
      | none => none
      | some env' => match body env' st with
        | some (.ok .nx env'' st') => forL src g body n (j + 1) env'' st'
        | some (.ok .ct env'' st') => forL src g body n (j + 1) env'' st'
        | some (.ok .br env'' st') => some (.ok .nx env'' st')
        | r => r
def whlL (t : Env → Sto → M Bool) (body : Env → Sto → Option RS) : Nat → Env → Sto → Option RS
  | 0, _, _ => none
  | n + 1, env, st => (t env st).st env fun b st => if b = true then match body env st with
      | some (.ok .nx env'' st') => whlL t body n env'' st'
      | some (.ok .ct env'' st') => whlL t body n env'' st'
      | some (.ok .br env'' st') => some (.ok .nx env'' st')
      | r => r
    else some (.ok .nx env st)
mutual
def exec (C : Cl) : CS → Env → Sto → Option RS
  | .asg g e, env, st => (ev C e env st).st env fun u st => match setT g u st env with | some env' => some (.ok .nx env' st) | none => none
  | .par i j a b, env, st => (ev C a env st).st env fun x st => (ev C b env st).st env fun y st => some (.ok .nx ((env.set i (some x)).set j (some y)) st)
  | .sub o i e, env, st => (ev C e env st).st env fun v st => (ev C o env st).st env fun x st => (ev C i env st).st env fun y st => match subU x y v st with | some st' => some (.ok .nx env st') | none => none
  | .ex e, env, st => (ev C e env st).st env fun _ st => some (.ok .nx env st)
  | .ret e, env, st => (ev C e env st).st env fun u st => some (.ok (.rt u) env st)
  | .ret0, env, st => some (.ok (.rt .non) env st)
  | .iff t a b, env, st => (tst (ev C t env st)).st env fun c st => if c = true then execs C a env st else execs C b env st
  | .whl t b, env, st => whlL (fun env st => tst (ev C t env st)) (fun env st => execs C b env st) C.fu env st
  | .for_ g it b, env, st => (evI C it env st).st env fun src st => forL src g (fun env st => execs C b env st) C.fu 0 env st
  | .brk, env, st => some (.ok .br env st)
  | .cnt, env, st => some (.ok .ct env st)
  | .pass, env, st => some (.ok .nx env st)
  | .raise c, env, st => some (.exc c env st)
  | .tryA b c i s, env, st => match execs C b env st with
    | some (.exc k env' st') => match C.isx k c with
      | some true => inS k i (fun env st => execs C s env st) env' st'
      | some false => some (.exc k env' st')
      | none => none
    | r => r
  | .tryR b c d, env, st => match execs C b env st with
    | some (.exc k env' st') => match C.isx k c with
      | some true => some (.exc d env' st')
      | some false => some (.exc k env' st')
      | none => none
    | r => r
def execs (C : Cl) : CSs → Env → Sto → Option RS
  | .nil, env, st => some (.ok .nx env st)
  | .cons s ss, env, st => match exec C s env st with
    | some (.ok .nx env' st') => execs C ss env' st'
    | r => r
end
structure Def where
  name : Str
  np : Nat
  N : List Str
  body : CSs
  pu : Bool := false
  nc : Bool := false
mutual
/-- no places of the store within -/
def flat : U → Bool
  | .ref _ => false
  | .err _ => false
  | .tup l => flats l
  | .fl l => flats l
  | _ => true
def flats : List U → Bool
  | [] => true
  | u :: us => flat u && flats us
end
/-- what a def that sees no place of its caller's hands back: flat, or a new list of such -/
def outP (u : U) (st2 st : Sto) : M U := match u with
  | .ref i => match st2[i]? with
    | some (.lst l) => if flats l = true then some (.ok (.ref st.length) (st ++ [.lst l])) else none
    | _ => none
  | u => if flat u = true then some (.ok u st) else none
def bodyU (C : Cl) (d : Def) (us : List U) (st : Sto) : M U := match execs C d.body (us.map some ++ List.replicate (d.N.length - us.length) none) st with
  | some (.ok .nx _ st') => some (.ok .non st')
  | some (.ok (.rt u) _ st') => some (.ok u st')
  | some (.exc c _ st') => some (.exc c st')
  | _ => none
def purU (C : Cl) (d : Def) (us : List U) (st : Sto) : M U := if flats us = true then match bodyU C d us [] with
    | some (.ok u st2) => outP u st2 st
    | some (.exc c _) => some (.exc c st)
    | none => none
  else none
/-- a def, called; k: how deep calls may go -/
def run (ds : List Def) (fu : Nat) (isx : Nat → Nat → Option Bool) : Nat → Nat → List U → Sto → M U
  | 0, _, _, _ => none
  | k + 1, f, us, st => match ds[f]? with
    | none => none
    | some d => if us.length = d.np then (if d.pu = true then purU ⟨run ds fu isx k, fu, isx⟩ d us st else bodyU ⟨run ds fu isx k, fu, isx⟩ d us st) else none
end Cw

set_option Elab.async false
set_option linter.all false
set_option maxRecDepth 100000
/-! values and stores, as the model's abstract heap bears them -/
namespace Cw
open PySem PySem.Spec PyProof.Rows L2

/-- a list that nobody writes -/
def Fz (K : PySem.W.Frag) (H : Hp) (a : Addr) (xs : List V) : Prop :=
  (∃ o, H a = some (.frz o (.lst xs))) ∨
    ∃ (o : Obj) (its : Array Value) (n : Nat), K.lookup a = some o ∧ o.cls = .type "list" ∧ o.dict = none ∧ o.data = .seq its n ∧ its.size ≤ sizeLine ∧ Vals xs its.toList
theorem Fz.sq {K : PySem.W.Frag} {H : Hp} {a : Addr} {xs : List V} (h : Fz K H a xs) : SqL K H a xs := by
  rcases h with ⟨o, h⟩ | h
  · exact .inl (.inr ⟨o, h⟩)
  · exact .inr h

/-- the written part; the exception that a suite holds -/
structure KK where
  K : PySem.W.Frag
  e : Addr
  k : Nat
section
variable (K : KK) (α : List Addr) (H : Hp)
mutual
def RelU : U → V → Prop
  | .non, v => v = .non
  | .bl b, v => v = .bl b
  | .int i, v => v = .int i
  | .str s, v => v = .str s
  | .tup us, v => ∃ a vs, v = .ref a ∧ H a = some (.tup vs) ∧ RelUs us vs
  | .fl us, v => ∃ a vs, v = .ref a ∧ Fz K.K H a vs ∧ RelUs us vs
  | .ref i, v => ∃ a, v = .ref a ∧ α[i]? = some a
  | .err c, v => v = .ref K.e ∧ c = K.k
def RelUs : List U → List V → Prop
  | [], vs => vs = []
  | u :: us, vs => ∃ v r, vs = v :: r ∧ RelU u v ∧ RelUs us r
end
end

/-- later: more places, all tuples and frozen lists as they were -/
structure Ext (α : List Addr) (H : Hp) (α' : List Addr) (H' : Hp) : Prop where
  pre : ∃ β, α' = α ++ β
  tups : ∀ b xs, H b = some (.tup xs) → H' b = some (.tup xs)
  frzs : ∀ b o xs, H b = some (.frz o (.lst xs)) → H' b = some (.frz o (.lst xs))
  rest : ∀ b o, H b = some o → b ∉ α → H' b = some o
  fr : ∀ b, b ∈ α' → b ∈ α ∨ H b = none
theorem Ext.refl {α : List Addr} {H : Hp} : Ext α H α H := ⟨⟨[], by simp⟩, fun _ _ h => h, fun _ _ _ h => h, fun _ _ h _ => h, fun _ h => .inl h⟩
theorem Ext.trans {α α' α'' : List Addr} {H H' H'' : Hp} (a : Ext α H α' H') (b : Ext α' H' α'' H'') : Ext α H α'' H'' := by
  obtain ⟨⟨β, e1⟩, t1, f1, r1, n1⟩ := a
  obtain ⟨⟨γ, e2⟩, t2, f2, r2, n2⟩ := b
  refine ⟨⟨β ++ γ, by rw [e2, e1, List.append_assoc]⟩, fun c xs h => t2 c xs (t1 c xs h), fun c o xs h => f2 c o xs (f1 c o xs h), fun c o h hc => r2 c o (r1 c o h hc) fun z => ?_, fun c hc => ?_⟩
  · rcases n1 c z with z | z
    · exact hc z
    · rw [z] at h; cases h
  · rcases n2 c hc with z | z
    · exact n1 c z
    · by_cases hm : c ∈ α
      · exact .inl hm
      · right
        cases e : H c with
        | none => rfl
        | some o => rw [r1 c o e hm] at z; cases z
theorem Ext.get {α α' : List Addr} {H H' : Hp} (a : Ext α H α' H') {i : Nat} {x : Addr} (h : α[i]? = some x) : α'[i]? = some x := by
  obtain ⟨⟨β, e⟩, _, _⟩ := a
  rw [e, List.getElem?_append_left (List.getElem?_eq_some_iff.mp h).1]
  exact h

section
variable {K : KK} {α α' : List Addr} {H H' : Hp}
theorem Fz.mono {K : PySem.W.Frag} (x : Ext α H α' H') {a : Addr} {xs : List V} (h : Fz K H a xs) : Fz K H' a xs := by
  rcases h with ⟨o, h⟩ | h
  · exact .inl ⟨o, x.frzs _ _ _ h⟩
  · exact .inr h
mutual
theorem RelU.mono (x : Ext α H α' H') : ∀ (u : U) {v : V}, RelU K α H u v → RelU K α' H' u v
  | .non, _, h => h
  | .bl _, _, h => h
  | .int _, _, h => h
  | .str _, _, h => h
  | .tup us, v, h => by
    obtain ⟨a, vs, e, h1, h2⟩ := h
    exact ⟨a, vs, e, x.tups _ _ h1, RelUs.mono x us h2⟩
  | .fl us, v, h => by
    obtain ⟨a, vs, e, h1, h2⟩ := h
    exact ⟨a, vs, e, h1.mono x, RelUs.mono x us h2⟩
  | .ref i, v, h => by
    obtain ⟨a, e, h1⟩ := h
    exact ⟨a, e, x.get h1⟩
  | .err _, _, h => h
theorem RelUs.mono (x : Ext α H α' H') : ∀ (us : List U) {vs : List V}, RelUs K α H us vs → RelUs K α' H' us vs
  | [], _, h => h
  | u :: us, vs, h => by
    obtain ⟨v, r, e, h1, h2⟩ := h
    exact ⟨v, r, e, RelU.mono x u h1, RelUs.mono x us h2⟩
end
theorem RelUs.cons {u : U} {us : List U} {v : V} {vs : List V} (h : RelU K α H u v) (t : RelUs K α H us vs) : RelUs K α H (u :: us) (v :: vs) := ⟨v, vs, rfl, h, t⟩
theorem RelUs.nil : RelUs K α H [] [] := rfl
theorem RelUs.len : ∀ {us : List U} {vs : List V}, RelUs K α H us vs → us.length = vs.length
  | [], _, h => by
    obtain rfl := (show _ = [] from h)
    rfl
  | u :: us, vs, h => by
    obtain ⟨v, r, e, _, h2⟩ := h
    rw [e, List.length_cons, List.length_cons, RelUs.len h2]
theorem RelUs.get : ∀ {us : List U} {vs : List V} {i : Nat} {u : U}, RelUs K α H us vs → us[i]? = some u → ∃ v, vs[i]? = some v ∧ RelU K α H u v
  | [], _, _, _, _, e => by simp at e
  | x :: us, vs, 0, u, h, e => by
    obtain ⟨v, r, rfl, h1, h2⟩ := h
    simp at e
    subst e
    exact ⟨v, rfl, h1⟩
  | x :: us, vs, i + 1, u, h, e => by
    obtain ⟨v, r, rfl, h1, h2⟩ := h
    simp at e
    obtain ⟨w, e1, e2⟩ := RelUs.get h2 e
    exact ⟨w, by simpa using e1, e2⟩
theorem RelUs.none_of {us : List U} {vs : List V} {i : Nat} (h : RelUs K α H us vs) (e : us[i]? = none) : vs[i]? = none := by
  have := h.len
  exact List.getElem?_eq_none_iff.mpr (by have := List.getElem?_eq_none_iff.mp e; omega)
theorem RelUs.append : ∀ {us us' : List U} {vs vs' : List V}, RelUs K α H us vs → RelUs K α H us' vs' → RelUs K α H (us ++ us') (vs ++ vs')
  | [], _, _, _, h, t => by
    obtain rfl := (show _ = [] from h)
    exact t
  | u :: us, us', vs, vs', h, t => by
    obtain ⟨v, r, rfl, h1, h2⟩ := h
    exact ⟨v, r ++ vs', rfl, h1, RelUs.append h2 t⟩
theorem RelUs.set : ∀ {us : List U} {vs : List V} {u : U} {v : V} (i : Nat), RelUs K α H us vs → RelU K α H u v → RelUs K α H (us.set i u) (vs.set i v)
  | [], _, _, _, _, h, t => by
    obtain rfl := (show _ = [] from h)
    exact rfl
  | x :: us, vs, u, v, 0, h, t => by
    obtain ⟨y, r, rfl, h1, h2⟩ := h
    exact ⟨v, r, rfl, t, h2⟩
  | x :: us, vs, u, v, i + 1, h, t => by
    obtain ⟨y, r, rfl, h1, h2⟩ := h
    exact ⟨y, r.set i v, rfl, h1, RelUs.set i h2 t⟩
theorem RelUs.drop : ∀ {us : List U} {vs : List V} (n : Nat), RelUs K α H us vs → RelUs K α H (us.drop n) (vs.drop n)
  | _, _, 0, h => h
  | [], _, n + 1, h => by
    obtain rfl := (show _ = [] from h)
    exact rfl
  | x :: us, vs, n + 1, h => by
    obtain ⟨y, r, rfl, h1, h2⟩ := h
    exact RelUs.drop n h2
theorem RelUs.take : ∀ {us : List U} {vs : List V} (n : Nat), RelUs K α H us vs → RelUs K α H (us.take n) (vs.take n)
  | _, _, 0, h => rfl
  | [], _, n + 1, h => by
    obtain rfl := (show _ = [] from h)
    exact rfl
  | x :: us, vs, n + 1, h => by
    obtain ⟨y, r, rfl, h1, h2⟩ := h
    exact ⟨y, r.take n, rfl, h1, RelUs.take n h2⟩
theorem RelUs.eraseIdx : ∀ {us : List U} {vs : List V} (n : Nat), RelUs K α H us vs → RelUs K α H (us.eraseIdx n) (vs.eraseIdx n)
  | [], _, n, h => by
    obtain rfl := (show _ = [] from h)
    exact rfl
  | x :: us, vs, 0, h => by
    obtain ⟨y, r, rfl, h1, h2⟩ := h
    exact h2
  | x :: us, vs, n + 1, h => by
    obtain ⟨y, r, rfl, h1, h2⟩ := h
    exact ⟨y, r.eraseIdx n, rfl, h1, RelUs.eraseIdx n h2⟩
theorem RelUs.dropLast {us : List U} {vs : List V} (h : RelUs K α H us vs) : RelUs K α H us.dropLast vs.dropLast := by
  rw [List.dropLast_eq_take, List.dropLast_eq_take, h.len]
  exact h.take _
theorem RelUs.reverse : ∀ {us : List U} {vs : List V}, RelUs K α H us vs → RelUs K α H us.reverse vs.reverse
  | [], _, h => by
    obtain rfl := (show _ = [] from h)
    exact rfl
  | x :: us, vs, h => by
    obtain ⟨y, r, rfl, h1, h2⟩ := h
    rw [List.reverse_cons, List.reverse_cons]
    exact (RelUs.reverse h2).append (.cons h1 rfl)
theorem RelUs.rep {us : List U} {vs : List V} (h : RelUs K α H us vs) : ∀ n : Nat, RelUs K α H (List.replicate n us).flatten (List.replicate n vs).flatten
  | 0 => rfl
  | n + 1 => by
    rw [List.replicate_succ, List.replicate_succ, List.flatten_cons, List.flatten_cons]
    exact h.append (RelUs.rep h n)
theorem RelUs.cut {us : List U} {vs : List V} (h : RelUs K α H us vs) (lo hi : Option Int) : RelUs K α H (cutL us lo hi) (cutV vs lo hi) := by
  unfold cutL cutV
  rw [h.len]
  exact (h.drop _).take _
end

/-! ### objects -/
section
variable (P : Program) (w : World)
def DX (a : Addr) (xs : List (NestedKey × Addr × Value)) (h : Heap) : Prop :=
  (a == sysModules) = false ∧ xs.length ≤ sizeLine ∧ ∃ o es ep, h.get? a = some o ∧ o.ExactDict ∧ o.data = .dict es ep ∧ es.toList = xs.map (entryOfKey (nestedKind P w)) ∧ (xs.map (·.1)).Nodup
variable (K : KK) (cls : Nat → Addr) (α : List Addr) (H : Hp)
def RelN (p : NestedKey × U) (q : NestedKey × Addr × Value) : Prop := p.1 = q.1 ∧ p.1.depth ≤ 8 ∧ RelU K α H (ukey p.1) (.ref q.2.1) ∧ ∃ v, RelV v q.2.2 ∧ RelU K α H p.2 v
def RelO (a : Addr) : O → Prop
  | .lst us => ∃ vs, H a = some (.lst vs) ∧ RelUs K α H us vs
  | .dk kvs => ∃ kvs', H a = some (.dK kvs') ∧ Paired (fun (p : Key × U) (q : Key × V) => p.1 = q.1 ∧ RelU K α H p.2 q.2) kvs kvs'
  | .dn kvs => ∃ xs, H a = some (.ext (DX P w a xs)) ∧ Paired (RelN K α H) kvs xs
  | .ins c fs => ∃ dx fs', H a = some (.ins (cls c) dx fs') ∧ Paired (fun (p : Str × U) (q : Str × V) => p.1 = q.1 ∧ RelU K α H p.2 q.2) fs fs'
/-- the store lies at the places α -/
structure RelH (st : Sto) : Prop where
  len : α.length = st.length
  nodup : α.Nodup
  obj : ∀ (i : Nat) (a : Addr) (o : O), α[i]? = some a → st[i]? = some o → RelO P w K cls α H a o
end

section
variable {P : Program} {w : World} {K : KK} {cls : Nat → Addr} {α α' : List Addr} {H H' : Hp} {st : Sto}
theorem RelO.mut {a : Addr} {o : O} (h : RelO P w K cls α H a o) : Mut (H a) := by
  cases o with
  | lst us => obtain ⟨vs, e, _⟩ := h; rw [e]; exact True.intro
  | dk us => obtain ⟨vs, e, _⟩ := h; rw [e]; exact True.intro
  | dn us => obtain ⟨vs, e, _⟩ := h; rw [e]; exact True.intro
  | ins c fs => obtain ⟨dx, vs, e, _⟩ := h; rw [e]; exact True.intro
theorem RelO.mono {a : Addr} {o : O} (x : Ext α H α' H') (e : H' a = H a) (h : RelO P w K cls α H a o) : RelO P w K cls α' H' a o := by
  cases o with
  | lst us => obtain ⟨vs, e1, r⟩ := h; exact ⟨vs, e.trans e1, RelUs.mono x us r⟩
  | dk us => obtain ⟨vs, e1, r⟩ := h; exact ⟨vs, e.trans e1, L2.Paired.mapP r fun p q z => ⟨z.1, RelU.mono x _ z.2⟩⟩
  | dn us => obtain ⟨vs, e1, r⟩ := h; exact ⟨vs, e.trans e1, L2.Paired.mapP r fun p q ⟨z1, z2, z3, v, z4, z5⟩ => ⟨z1, z2, RelU.mono x _ z3, v, z4, RelU.mono x _ z5⟩⟩
  | ins c fs => obtain ⟨dx, vs, e1, r⟩ := h; exact ⟨dx, vs, e.trans e1, L2.Paired.mapP r fun p q z => ⟨z.1, RelU.mono x _ z.2⟩⟩
theorem RelH.some_of (h : RelH P w K cls α H st) {i : Nat} {a : Addr} (e : α[i]? = some a) : ∃ o, st[i]? = some o ∧ RelO P w K cls α H a o := by
  have hl : i < st.length := by rw [← h.len]; exact (List.getElem?_eq_some_iff.mp e).1
  exact ⟨st[i], List.getElem?_eq_getElem hl, h.obj i a _ e (List.getElem?_eq_getElem hl)⟩
theorem RelH.at {i : Nat} {o : O} (h : RelH P w K cls α H st) (e : st[i]? = some o) : ∃ a, α[i]? = some a ∧ RelO P w K cls α H a o := by
  have hl : i < α.length := by rw [h.len]; exact (List.getElem?_eq_some_iff.mp e).1
  exact ⟨α[i], List.getElem?_eq_getElem hl, h.obj i _ o (List.getElem?_eq_getElem hl) e⟩
theorem RelH.ref {i : Nat} {o : O} {v : V} (h : RelH P w K cls α H st) (r : RelU K α H (.ref i) v) (e : st[i]? = some o) : ∃ a, v = .ref a ∧ α[i]? = some a ∧ RelO P w K cls α H a o := by
  obtain ⟨a, rfl, ha⟩ := r
  exact ⟨a, rfl, ha, h.obj i a o ha e⟩
/-- elsewhere everything is as it was -/
theorem RelH.keep (h : RelH P w K cls α H st) (x : Ext α H α H') (e : ∀ (i : Nat) (a : Addr), α[i]? = some a → H' a = H a) : RelH P w K cls α H' st :=
  ⟨h.len, h.nodup, fun i a o ha ho => (h.obj i a o ha ho).mono x (e i a ha)⟩
theorem RelH.ne (h : RelH P w K cls α H st) {p : Addr} (hp : H p = none) {i : Nat} {a : Addr} (e : α[i]? = some a) : a ≠ p := by
  obtain ⟨o, _, r⟩ := h.some_of e
  intro z
  have := r.mut
  rw [z, hp] at this
  exact this
theorem ext_new {p : Addr} {o : HO} (hp : H p = none) : Ext α H α (upd H p o) :=
  ⟨⟨[], by simp⟩, fun b xs e => by rw [upd_ne (ne_of_none e hp)]; exact e, fun b _ xs e => by rw [upd_ne (ne_of_none e hp)]; exact e, fun b _ e _ => by rw [upd_ne (ne_of_none e hp)]; exact e, fun _ h => .inl h⟩
theorem ext_newR {p : Addr} {o : HO} (hp : H p = none) : Ext α H (α ++ [p]) (upd H p o) :=
  ⟨⟨[p], rfl⟩, fun b xs e => by rw [upd_ne (ne_of_none e hp)]; exact e, fun b _ xs e => by rw [upd_ne (ne_of_none e hp)]; exact e, fun b _ e _ => by rw [upd_ne (ne_of_none e hp)]; exact e, fun b h => (List.mem_append.mp h).imp id fun z => by rw [List.mem_singleton.mp z]; exact hp⟩
/-- a new object that the store does not see (a tuple) -/
theorem RelH.newT (h : RelH P w K cls α H st) {p : Addr} {o : HO} (hp : H p = none) : RelH P w K cls α (upd H p o) st :=
  h.keep (ext_new hp) fun i a e => upd_ne (h.ne hp e)
/-- a new object of the store -/
theorem RelH.new (h : RelH P w K cls α H st) {p : Addr} {o : HO} {o' : O} (hp : H p = none) (r : RelO P w K cls (α ++ [p]) (upd H p o) p o') : RelH P w K cls (α ++ [p]) (upd H p o) (st ++ [o']) := by
  refine ⟨by simp [h.len], ?_, fun i a q ha hq => ?_⟩
  · rw [List.nodup_append]
    refine ⟨h.nodup, by simp, fun x hx y hy => ?_⟩
    obtain ⟨i, hi⟩ := List.getElem?_of_mem hx
    have := h.ne hp hi
    simp at hy
    rw [hy]
    exact this
  · by_cases hi : i < α.length
    · rw [List.getElem?_append_left hi] at ha
      rw [List.getElem?_append_left (by rw [← h.len]; exact hi)] at hq
      exact (h.obj i a q ha hq).mono (ext_newR hp) (upd_ne (h.ne hp ha))
    · have hl : i < (α ++ [p]).length := (List.getElem?_eq_some_iff.mp ha).1
      simp at hl
      have e : i = α.length := by omega
      subst e
      rw [List.getElem?_append_right (Nat.le_refl _)] at ha
      simp at ha
      subst ha
      rw [h.len, List.getElem?_append_right (Nat.le_refl _)] at hq
      simp at hq
      subst hq
      exact r
theorem RelH.newRef (h : RelH P w K cls α H st) {p : Addr} {H' : Hp} : RelU K (α ++ [p]) H' (.ref st.length) (.ref p) := by
  refine ⟨p, rfl, ?_⟩
  rw [← h.len, List.getElem?_append_right (Nat.le_refl _)]
  simp
theorem ext_upd {a : Addr} {o : HO} {i : Nat} (ha : α[i]? = some a) (m : Mut (H a)) : Ext α H α (upd H a o) :=
  ⟨⟨[], by simp⟩, fun b xs e => by
    rw [upd_ne (fun z => by rw [z] at e; rw [e] at m; exact m)]
    exact e, fun b _ xs e => by
    rw [upd_ne (fun z => by rw [z] at e; rw [e] at m; exact m)]
    exact e, fun b _ e hb => by
    rw [upd_ne (fun z => hb (by rw [z]; exact List.mem_of_getElem? ha))]
    exact e, fun _ h => .inl h⟩
/-- an object of the store is changed -/
theorem RelH.write (h : RelH P w K cls α H st) {i : Nat} {a : Addr} {o : HO} {o' : O} (ha : α[i]? = some a) (r : RelO P w K cls α (upd H a o) a o') : RelH P w K cls α (upd H a o) (st.set i o') ∧ Ext α H α (upd H a o) := by
  obtain ⟨o0, hs, r0⟩ := h.some_of ha
  have x : Ext α H α (upd H a o) := ext_upd ha r0.mut
  refine ⟨⟨by simp [h.len], h.nodup, fun j b q hb hq => ?_⟩, x⟩
  by_cases e : j = i
  · subst e
    rw [ha] at hb
    cases hb
    rw [List.getElem?_set_self (List.getElem?_eq_some_iff.mp hs).1] at hq
    cases hq
    exact r
  · rw [List.getElem?_set_ne (Ne.symm e)] at hq
    have nb : b ≠ a := fun z => by
      subst z
      have h1 := List.getElem?_eq_some_iff.mp ha
      have h2 := List.getElem?_eq_some_iff.mp hb
      exact e ((List.getElem_inj h.nodup).mp (h2.2.trans h1.2.symm))
    exact (h.obj j b q hb hq).mono x (upd_ne nb)
end

/-! ### slots -/
section
variable {P : Program} {w : World} {K : KK} {cls : Nat → Addr} {α α' : List Addr} {H H' : Hp} {st : Sto}
/-- the names' values -/
def RelE (K : KK) (α : List Addr) (H : Hp) (env : Env) (σ : L2.St) : Prop := env.length = σ.length ∧ ∀ (i : Nat) (u : U), env[i]? = some (some u) → ∃ v, σ[i]? = some (some v) ∧ RelU K α H u v
theorem RelE.mono (x : Ext α H α' H') {env : Env} {σ : L2.St} (h : RelE K α H env σ) : RelE K α' H' env σ :=
  ⟨h.1, fun i u e => let ⟨v, e1, r⟩ := h.2 i u e; ⟨v, e1, RelU.mono x _ r⟩⟩
theorem RelE.set {env : Env} {σ : L2.St} (h : RelE K α H env σ) (i : Nat) {u : U} {v : V} (r : RelU K α H u v) : RelE K α H (env.set i (some u)) (σ.set i (some v)) := by
  refine ⟨by simp [h.1], fun j x e => ?_⟩
  by_cases hj : i = j
  · subst hj
    have hl : i < env.length := by
      have := (List.getElem?_eq_some_iff.mp e).1
      simpa using this
    rw [List.getElem?_set_self hl] at e
    cases e
    exact ⟨v, by rw [List.getElem?_set_self (by rw [← h.1]; exact hl)], r⟩
  · rw [List.getElem?_set_ne hj] at e ⊢
    exact h.2 j x e
theorem RelE.unset {env : Env} {σ : L2.St} (h : RelE K α H env σ) (i : Nat) (o : Option V) : RelE K α H (env.set i none) (σ.set i o) := by
  refine ⟨by simp [h.1], fun j x e => ?_⟩
  by_cases hj : i = j
  · subst hj
    have hl : i < env.length := by
      have := (List.getElem?_eq_some_iff.mp e).1
      simpa using this
    rw [List.getElem?_set_self hl] at e
    cases e
  · rw [List.getElem?_set_ne hj] at e ⊢
    exact h.2 j x e
theorem RelE.wipe {env : Env} {σ : L2.St} (h : RelE K α H env σ) : ∀ vs : List Nat, RelE K α H (wipeE env vs) (wipe σ vs)
  | [] => h
  | v :: vs => (RelE.wipe h vs).unset v none
end
end Cw

set_option Elab.async false
set_option linter.all false
set_option maxRecDepth 100000
/-! readings by the interpreter -/
namespace Cw
open PySem PySem.Spec PyProof.Rows L2

/-- what is fixed: the defs' meaning, the classes' addresses -/
structure Mm where
  P : Program
  w : World
  K : PySem.W.Frag
  cls : Nat → Addr
  clv : Nat → Value
  C : Cl
  ea : Addr
  ek : Nat
abbrev Mm.KK (m : Mm) : KK := ⟨m.K, m.ea, m.ek⟩
section
variable (m : Mm)
abbrev Mm.RH (α : List Addr) (H : Hp) (st : Sto) : Prop := RelH m.P m.w m.KK m.cls α H st
abbrev Mm.RU (α : List Addr) (H : Hp) (u : U) (v : V) : Prop := RelU m.KK α H u v
abbrev Mm.RUs (α : List Addr) (H : Hp) (u : List U) (v : List V) : Prop := RelUs m.KK α H u v
abbrev Mm.RE (α : List Addr) (H : Hp) (env : Env) (σ : L2.St) : Prop := RelE m.KK α H env σ
/-- the end r is wanted: of a value by Q, of an exception by E -/
def Fin {α : Type} {β : Type} (rel : List Addr → Hp → α → β → Prop) (r : R α) (al : List Addr) (H : Hp) (Q : β → Hp → Prop) (E : XK) : Prop := match r with
  | .ok u st => ∀ al' H' v, Ext al H al' H' → m.RH al' H' st → rel al' H' u v → Q v H'
  | .exc c st => ∀ al' H', Ext al H al' H' → m.RH al' H' st → E (m.clv c) none H'
abbrev FinE := Fin m (RelU m.KK)
abbrev FinA := Fin m (RelUs m.KK)
abbrev FinB := Fin m (fun (_ : List Addr) (_ : Hp) (b c : Bool) => b = c)
theorem Fin.mono {m : Mm} {α β : Type} {rel : List Addr → Hp → α → β → Prop} {r : R α} {al al' : List Addr} {H H' : Hp} {Q : β → Hp → Prop} {E : XK} (x : Ext al H al' H') (h : Fin m rel r al H Q E) : Fin m rel r al' H' Q E := by
  cases r with
  | ok u st => exact fun al2 H2 v y => h al2 H2 v (x.trans y)
  | exc c st => exact fun al2 H2 y => h al2 H2 (x.trans y)
def tE (W : WX) (c : CE) : TE := fun σ H Q => ∃ al env st r, m.RH al H st ∧ m.RE al H env σ ∧ ev m.C c env st = some r ∧ FinE m r al H Q (fun cl d H' => W cl d σ H')
def tA (W : WX) (c : CEs) : TA := fun σ H Q => ∃ al env st r, m.RH al H st ∧ m.RE al H env σ ∧ evs m.C c env st = some r ∧ FinA m r al H Q (fun cl d H' => W cl d σ H')
def tT (W : WX) (c : CE) : TT := fun σ H Q => ∃ al env st r, m.RH al H st ∧ m.RE al H env σ ∧ tst (ev m.C c env st) = some r ∧ FinB m r al H Q (fun cl d H' => W cl d σ H')
/-- the promise of the f-th def -/
def spC (f : Nat) : Sp := fun vs H Q E => ∃ al st us r, m.RH al H st ∧ m.RUs al H us vs ∧ m.C.call f us st = some r ∧ FinE m r al H Q E
end
theorem PE.mono {X : Cx} {e : Expr} {t t' : TE} (h : PE X e t) (i : ∀ σ H Q, t' σ H Q → t σ H Q) : PE X e t' := ⟨fun pins s σ H Q I q => h.run pins s σ H Q I (i σ H Q q)⟩
theorem PA.mono {X : Cx} {e : List Expr} {t t' : TA} (h : PA X e t) (i : ∀ σ H Q, t' σ H Q → t σ H Q) : PA X e t' := ⟨fun pos pins s σ H Q I q => h.run pos pins s σ H Q I (i σ H Q q)⟩
theorem PT.mono {X : Cx} {e : Expr} {t t' : TT} (h : PT X e t) (i : ∀ σ H Q, t' σ H Q → t σ H Q) : PT X e t' := ⟨fun pins s σ H Q I q => h.run pins s σ H Q I (i σ H Q q)⟩

section
variable {m : Mm} {W : WX} {σ : L2.St} {H : Hp} {al : List Addr} {env : Env} {st : Sto}
/-- an expression, then what hangs on it -/
theorem tE_bind {β γ : Type} {rel : List Addr → Hp → β → γ → Prop} {a : CE} {k : U → Sto → M β} {r : R β} {Q : γ → Hp → Prop} {T : V → Hp → Prop}
    (h1 : m.RH al H st) (h2 : m.RE al H env σ) (h : (ev m.C a env st).bind k = some r) (hr : Fin m rel r al H Q (fun cl d H' => W cl d σ H'))
    (nx : ∀ u st1 al1 H1 x, Ext al H al1 H1 → m.RH al1 H1 st1 → m.RE al1 H1 env σ → m.RU al1 H1 u x → k u st1 = some r → Fin m rel r al1 H1 Q (fun cl d H' => W cl d σ H') → T x H1) : tE m W a σ H T := by
  cases e : ev m.C a env st with
  | none => rw [e] at h; cases h
  | some q =>
    cases q with
    | exc c st' =>
      rw [e] at h
      cases h
      exact ⟨al, env, st, _, h1, h2, e, hr⟩
    | ok u st' =>
      rw [e] at h
      exact ⟨al, env, st, _, h1, h2, e, fun al1 H1 x y g ru => nx u st' al1 H1 x y g (h2.mono y) ru h (hr.mono y)⟩
theorem tA_bind {β γ : Type} {rel : List Addr → Hp → β → γ → Prop} {a : CEs} {k : List U → Sto → M β} {r : R β} {Q : γ → Hp → Prop} {T : List V → Hp → Prop}
    (h1 : m.RH al H st) (h2 : m.RE al H env σ) (h : (evs m.C a env st).bind k = some r) (hr : Fin m rel r al H Q (fun cl d H' => W cl d σ H'))
    (nx : ∀ u st1 al1 H1 x, Ext al H al1 H1 → m.RH al1 H1 st1 → m.RE al1 H1 env σ → m.RUs al1 H1 u x → k u st1 = some r → Fin m rel r al1 H1 Q (fun cl d H' => W cl d σ H') → T x H1) : tA m W a σ H T := by
  cases e : evs m.C a env st with
  | none => rw [e] at h; cases h
  | some q =>
    cases q with
    | exc c st' =>
      rw [e] at h
      cases h
      exact ⟨al, env, st, _, h1, h2, e, hr⟩
    | ok u st' =>
      rw [e] at h
      exact ⟨al, env, st, _, h1, h2, e, fun al1 H1 x y g ru => nx u st' al1 H1 x y g (h2.mono y) ru h (hr.mono y)⟩
theorem tT_bind {β γ : Type} {rel : List Addr → Hp → β → γ → Prop} {a : CE} {k : Bool → Sto → M β} {r : R β} {Q : γ → Hp → Prop} {T : Bool → Hp → Prop}
    (h1 : m.RH al H st) (h2 : m.RE al H env σ) (h : (tst (ev m.C a env st)).bind k = some r) (hr : Fin m rel r al H Q (fun cl d H' => W cl d σ H'))
    (nx : ∀ u st1 al1 H1, Ext al H al1 H1 → m.RH al1 H1 st1 → m.RE al1 H1 env σ → k u st1 = some r → Fin m rel r al1 H1 Q (fun cl d H' => W cl d σ H') → T u H1) : tT m W a σ H T := by
  cases e : tst (ev m.C a env st) with
  | none => rw [e] at h; cases h
  | some q =>
    cases q with
    | exc c st' =>
      rw [e] at h
      cases h
      exact ⟨al, env, st, _, h1, h2, e, hr⟩
    | ok u st' =>
      rw [e] at h
      exact ⟨al, env, st, _, h1, h2, e, fun al1 H1 x y g ru => by subst ru; exact nx u st' al1 H1 y g (h2.mono y) h (hr.mono y)⟩
/-- a test by a value -/
theorem tT_val {c : CE} {Q : Bool → Hp → Prop} (h : tT m W c σ H Q) : tE m W c σ H (fun x H1 => ∃ k, x = .bl k ∧ Q k H1) := by
  obtain ⟨al, env, st, r, h1, h2, e, hr⟩ := h
  cases q : ev m.C c env st with
  | none => rw [q] at e; cases e
  | some p =>
    rw [q] at e
    cases p with
    | exc c' st' => cases e; exact ⟨al, env, st, _, h1, h2, q, hr⟩
    | ok u st' =>
      cases u <;> first
        | (cases e
           refine ⟨al, env, st, _, h1, h2, q, fun al1 H1 x y g ru => ⟨_, ru, hr al1 H1 _ y g rfl⟩⟩)
        | cases e
/-- a value that is True or False, from a test's reading -/
theorem tE_of_T {c : CE} {Q : VK} {r : R U} (h1 : m.RH al H st) (h2 : m.RE al H env σ) (h : (tst (ev m.C c env st)).bind (fun d st => some (.ok (.bl d) st)) = some r) (hr : FinE m r al H Q (fun cl d H' => W cl d σ H')) : tE m W c σ H Q := by
  cases q : ev m.C c env st with
  | none => rw [q] at h; cases h
  | some p =>
    rw [q] at h
    cases p with
    | exc c' st' => cases h; exact ⟨al, env, st, _, h1, h2, q, hr⟩
    | ok u st' => cases u <;> first | (cases h; exact ⟨al, env, st, _, h1, h2, q, hr⟩) | cases h
end
end Cw

set_option Elab.async false
set_option linter.all false
set_option maxRecDepth 100000
set_option maxHeartbeats 1000000
/-! operators by values -/
namespace Cw
open PySem PySem.Spec PyProof.Rows L2

structure Gx (m : Mm) (X : Cx) : Prop where
  hP : X.prog = m.P
  hw : X.w = m.w
  hK : X.K = m.K
  un : X.A.units + 100 < cLine
theorem lim_eq : (LIM : Nat) = sizeLine := by rw [sizeLine_eq]

section
variable {m : Mm} {X : Cx}
/-- what is wanted of an operator's answer -/
abbrev Want (m : Mm) (al : List Addr) (H : Hp) (u : U) (st' : Sto) (Q : VK) : Prop := ∀ al' H' v, Ext al H al' H' → m.RH al' H' st' → m.RU al' H' u v → Q v H'
def rB (m : Mm) (f : U → U → Sto → M U) : R2 := fun x y H Q => ∃ al st u1 u2 u st', m.RH al H st ∧ m.RU al H u1 x ∧ m.RU al H u2 y ∧ f u1 u2 st = some (.ok u st') ∧ Want m al H u st' Q
theorem want_new {al : List Addr} {H : Hp} {st : Sto} {o : O} {ho : HO} {Q : VK} (h : m.RH al H st) (q : Want m al H (.ref st.length) (st ++ [o]) Q) {p : Addr} (hp : H p = none) (r : RelO m.P m.w m.KK m.cls (al ++ [p]) (upd H p ho) p o) : Q (.ref p) (upd H p ho) :=
  q (al ++ [p]) _ _ (ext_newR hp) (h.new hp r) h.newRef
theorem want_tup {al : List Addr} {H : Hp} {st : Sto} {us : List U} {vs : List V} {Q : VK} (h : m.RH al H st) (q : Want m al H (.tup us) st Q) (r : RelUs m.KK al H us vs) {p : Addr} (hp : H p = none) : Q (.ref p) (upd H p (.tup vs)) :=
  q al _ _ (ext_new hp) (h.newT hp) ⟨p, vs, rfl, upd_same, RelUs.mono (ext_new hp) us r⟩
theorem want_lst {al : List Addr} {H : Hp} {st : Sto} {us : List U} {vs : List V} {Q : VK} (h : m.RH al H st) (q : Want m al H (.ref st.length) (st ++ [.lst us]) Q) (r : RelUs m.KK al H us vs) {p : Addr} (hp : H p = none) : Q (.ref p) (upd H p (.lst vs)) :=
  want_new h q hp ⟨vs, upd_same, RelUs.mono (ext_newR hp) us r⟩
theorem want_same {al : List Addr} {H : Hp} {st : Sto} {u : U} {v : V} {Q : VK} (h : m.RH al H st) (q : Want m al H u st Q) (r : m.RU al H u v) : Q v H := q al H v Ext.refl h r
/-- the list that a reference tells -/
theorem lst_of {al : List Addr} {H : Hp} {st : Sto} {i : Nat} {l : List U} {v : V} (h : m.RH al H st) (r : m.RU al H (.ref i) v) (e : st[i]? = some (.lst l)) : ∃ a vs, v = .ref a ∧ al[i]? = some a ∧ H a = some (.lst vs) ∧ RelUs m.KK al H l vs := by
  obtain ⟨a, e1, e2, vs, e3, e4⟩ := h.ref r e
  exact ⟨a, vs, e1, e2, e3, e4⟩
theorem tup_len {X : Cx} {pins : List (Addr × Obj)} {σ : L2.St} {H : Hp} {s : Shared} {a : Addr} {vs : List V} (I : Inv X pins σ H s) (h : H a = some (.tup vs)) : vs.length ≤ sizeLine :=
  let ⟨_, _, _, z⟩ := I.tuple (SqT.of h); z
theorem lst_len {X : Cx} {pins : List (Addr × Obj)} {σ : L2.St} {H : Hp} {s : Shared} {a : Addr} {vs : List V} (I : Inv X pins σ H s) (h : H a = some (.lst vs)) : vs.length ≤ sizeLine :=
  let ⟨_, _, _, z⟩ := I.list (SqL.of h); z

/-- a tuple times one is the tuple -/
theorem tuple_mul1 (l : Addr) (items : Array Value) (n : Nat) (dd : Option Addr) (sl : Array (Option Value)) (u : Tok) : Meets (Builtin.«tuple.__mul__» ⟨[.ref l, .int 1 u], []⟩) (fun _ R s => s.heap.get? l = some { cls := .type "tuple", dict := dd, data := .seq items n, slots := sl } ∧
      R (.ok (.ret (Value.ref l))) s) :=
  .of_wp fun prog w A R s h => by
    obtain ⟨hp, g, d, tk, os⟩ := s
    obtain ⟨hl, h⟩ := h
    have f1 := AutoSeq1.idx_int
    have c0 : (decide ((1 : Int) < -(2 ^ 63)) || decide ((1 : Int) ≥ 2 ^ 63)) = false := by decide
    have c1 : (items.isEmpty || (1 : Int) == 1) = true := by simp
    wp_walk using wpAny_loadPart' hl
    repeat (first
      | (refine wpAny_ite_false (decide_eq_false (by rw [c0]; exact Bool.false_ne_true)) ?_; wp_walk using wpAny_loadPart' hl)
      | (refine wpAny_ite_true (decide_eq_true (by rw [c1])) ?_; wp_walk using wpAny_loadPart' hl))
    exact ⟨_, rfl, h⟩
def rRepT1 (K : PySem.W.Frag) : R2 := fun x y H Q => ∃ l xs, x = .ref l ∧ y = .int 1 ∧ SqT K H l xs ∧ xs ≠ [] ∧ Q (.ref l) H
theorem op_repT1 : OpR X (binaryOp .Mult) (rRepT1 X.K) := by
  intro pins s σ H x y v u Q I rx ry h
  obtain ⟨l, xs, rfl, rfl, hT, hne, q⟩ := h
  cases rx
  obtain ⟨t, rfl⟩ := ry
  obtain ⟨its, r, ⟨⟨cls, dd, data, sl⟩, ho, hc, n, hd⟩, hs⟩ := I.tuple hT
  simp only at hc hd
  subst hc hd
  refine wpAny_binaryOp_repeat_ref (T := "tuple") (U := "int") (by decide) ⟨_, ho, rfl⟩ (fun s' => typeIs_int s' 1 t) noFill_tuple_mul F.fills_int_mul F.slot_int_rmul repeat_tuple F.slot_int_index.lookup
    (call_meets F.slot_int_rmul (typeIs_int s 1 t) F.entry_int_rmul (F.args_int_rmul_2 _ _) (int_rmul_tuple 1 t l its.toArray n dd sl)
      ⟨ho, rfl, ⟨_, ho, rfl⟩, call_meets F.slot_tuple_mul ⟨_, ho, rfl⟩ F.entry_tuple_mul (F.args_tuple_mul_2 _ _) (tuple_mul1 l its.toArray n dd sl t) ⟨ho, ?_⟩⟩)
  exact ⟨.ref l, H, I, rfl, q⟩
theorem add_ok (g : Gx m X) : OpR X (binaryOp .Add) (rB m (binU .add)) := by
  rintro pins s σ H x y v u Q I rx ry ⟨al, st, u1, u2, w, st', h, r1, r2, e, q⟩
  unfold binU at e
  split at e
  case h_1 _ _ i j _ =>
    cases e
    exact op_add pins s σ H x y v u Q I rx ry ⟨i, j, r1, r2, want_same h q rfl⟩
  case h_2 _ _ i j _ =>
    split at e
    · rename_i hz
      cases e
      exact op_add_str pins s σ H x y v u Q I rx ry ⟨i, j, r1, r2, by rw [← lim_eq]; exact hz, want_same h q rfl⟩
    · cases e
  case h_3 _ _ i j _ =>
    split at e
    · rename_i xs ys e1 e2
      split at e
      · rename_i hz
        cases e
        obtain ⟨a, vs, rfl, h1, h2, h3⟩ := lst_of h r1 e1
        obtain ⟨b, ws, rfl, h4, h5, h6⟩ := lst_of h r2 e2
        exact op_cat pins s σ H _ _ v u Q I rx ry ⟨a, b, vs, ws, rfl, rfl, h2, h5, by rw [← lim_eq, ← h3.len, ← h6.len]; exact hz, fun p hp => want_lst h q (h3.append h6) hp⟩
      · cases e
    · cases e
  case h_4 _ _ xs ys _ =>
    split at e
    · rename_i hz
      cases e
      obtain ⟨a, vs, rfl, h2, h3⟩ := r1
      obtain ⟨b, ws, rfl, h5, h6⟩ := r2
      refine op_catT pins s σ H _ _ v u Q I rx ry ⟨a, b, vs, ws, rfl, rfl, SqT.of h2, SqT.of h5, fun z => ?_, by rw [← lim_eq, ← h3.len, ← h6.len]; exact hz.1, fun z => ?_, fun _ p hp => want_tup h q (h3.append h6) hp⟩
      · have := h3.len
        rw [z] at this
        exact hz.2 (List.length_eq_zero_iff.mp this)
      · have e3 := h6.len
        rw [z] at e3
        have e4 := List.length_eq_zero_iff.mp e3
        subst e4
        rw [List.append_nil] at q
        exact want_same h q ⟨a, vs, rfl, h2, h3⟩
    · cases e
  all_goals first | contradiction | cases e
theorem sub_ok (g : Gx m X) : OpR X (binaryOp .Sub) (rB m (binU .sub)) := by
  rintro pins s σ H x y v u Q I rx ry ⟨al, st, u1, u2, w, st', h, r1, r2, e, q⟩
  unfold binU at e
  split at e
  case h_5 _ _ i j _ =>
    cases e
    exact op_sub pins s σ H x y v u Q I rx ry ⟨i, j, r1, r2, want_same h q rfl⟩
  all_goals first | contradiction | cases e
theorem mul_ok (g : Gx m X) : OpR X (binaryOp .Mult) (rB m (binU .mul)) := by
  rintro pins s σ H x y v u Q I rx ry ⟨al, st, u1, u2, w, st', h, r1, r2, e, q⟩
  unfold binU at e
  split at e
  case h_6 _ _ i j _ =>
    split at e
    · rename_i hz
      cases e
      exact op_mul pins s σ H x y v u Q I rx ry ⟨i, j, r1, r2, hz, want_same h q rfl⟩
    · cases e
  case h_7 _ _ i k _ =>
    split at e
    · rename_i xs e1
      split at e
      · rename_i hz
        cases e
        obtain ⟨a, vs, rfl, h1, h2, h3⟩ := lst_of h r1 e1
        exact op_rep pins s σ H _ _ v u Q I rx ry ⟨a, k, vs, rfl, r2, h2, hz.1, hz.2.1, by rw [← lim_eq, ← h3.len]; exact hz.2.2, fun p hp => want_lst h q (h3.rep _) hp⟩
      · cases e
    · cases e
  case h_11 _ _ us k _ =>
    split at e
    · rename_i hz
      cases e
      obtain ⟨a, vs, rfl, h1, h2⟩ := r1
      obtain rfl := (show y = V.int k from r2)
      have hne : vs ≠ [] := fun z => hz.1 (List.eq_nil_of_length_eq_zero (by rw [h2.len, z]; rfl))
      by_cases hk : k = 1
      · subst hk
        have e1 : (List.replicate (1 : Int).toNat us).flatten = us := by
          show (List.replicate 1 us).flatten = us
          simp
        rw [e1] at q
        exact op_repT1 pins s σ H _ _ v u Q I rx ry ⟨a, vs, rfl, rfl, SqT.of h1, hne, want_same h q ⟨a, vs, rfl, h1, h2⟩⟩
      · exact op_repT pins s σ H _ _ v u Q I rx ry ⟨a, k, vs, rfl, rfl, SqT.of h1, hne, by omega, hz.2.2.1, by rw [← h2.len]; exact hz.2.2.2, fun p hp => want_tup h q (h2.rep _) hp⟩
    · cases e
  all_goals first | contradiction | cases e
theorem fdiv_ok (g : Gx m X) : OpR X (binaryOp .FloorDiv) (rB m (binU .fdiv)) := by
  rintro pins s σ H x y v u Q I rx ry ⟨al, st, u1, u2, w, st', h, r1, r2, e, q⟩
  unfold binU at e
  split at e
  case h_8 _ _ i j _ =>
    split at e
    · rename_i hz
      cases e
      exact op_fdiv pins s σ H x y v u Q I rx ry ⟨i, j, r1, r2, hz, want_same h q rfl⟩
    · cases e
  all_goals first | contradiction | cases e
theorem mod_ok (g : Gx m X) : OpR X (binaryOp .Mod) (rB m (binU .mod)) := by
  rintro pins s σ H x y v u Q I rx ry ⟨al, st, u1, u2, w, st', h, r1, r2, e, q⟩
  unfold binU at e
  split at e
  case h_9 _ _ i j _ =>
    split at e
    · rename_i hz
      cases e
      exact op_mod pins s σ H x y v u Q I rx ry ⟨i, j, r1, r2, hz, want_same h q rfl⟩
    · cases e
  all_goals first | contradiction | cases e
theorem pow_ok (g : Gx m X) : OpR X (binaryOp .Pow) (rB m (binU .pow)) := by
  rintro pins s σ H x y v u Q I rx ry ⟨al, st, u1, u2, w, st', h, r1, r2, e, q⟩
  unfold binU at e
  split at e
  case h_10 _ _ i j _ =>
    split at e
    · rename_i hz
      cases e
      exact op_pow pins s σ H x y v u Q I rx ry ⟨i, j, r1, r2, hz, want_same h q rfl⟩
    · cases e
  all_goals first | contradiction | cases e

/-! ### data -/
theorem sV_rel {al : List Addr} {H : Hp} {u : U} {x v : V} (e : sV u = some x) (r : m.RU al H u v) : v = x := by
  cases u <;> first | (cases e; exact r) | cases e
/-- an object's data, as HandS tells it -/
def DOk (m : Mm) (al : List Addr) (H : Hp) (f : Nat → Option PyData) : Prop := ∀ i d a, f i = some d → al[i]? = some a → Dp m.K H (.ref a) d
mutual
theorem dat_ok {al : List Addr} {H : Hp} {f : Nat → Option PyData} (hf : DOk m al H f) : ∀ (u : U) {v : V} {d : PyData}, m.RU al H u v → dat f u = some d → Dp m.K H v d
  | .non, v, d, r, e => by
    obtain rfl := (show v = _ from r)
    cases e
    exact .non
  | .bl b, v, d, r, e => by
    obtain rfl := (show v = _ from r)
    cases e
    exact .bl b
  | .int i, v, d, r, e => by
    obtain rfl := (show v = _ from r)
    cases e
    exact .int i
  | .str x, v, d, r, e => by
    obtain rfl := (show v = _ from r)
    cases e
    exact .str x
  | .tup us, v, d, r, e => by
    obtain ⟨a, vs, rfl, h1, h2⟩ := r
    rw [dat] at e
    cases q : dats f us with
    | none => rw [q] at e; cases e
    | some ds =>
      rw [q] at e
      cases e
      exact .tup (SqT.of h1) (dats_ok hf us h2 q)
  | .fl us, v, d, r, e => by
    obtain ⟨a, vs, rfl, h1, h2⟩ := r
    rw [dat] at e
    cases q : dats f us with
    | none => rw [q] at e; cases e
    | some ds =>
      rw [q] at e
      cases e
      exact .lst h1.sq (dats_ok hf us h2 q)
  | .ref i, v, d, r, e => by
    obtain ⟨a, rfl, h1⟩ := r
    exact hf i d a e h1
  | .err _, _, _, r, e => by rw [dat] at e; cases e
theorem dats_ok {al : List Addr} {H : Hp} {f : Nat → Option PyData} (hf : DOk m al H f) : ∀ (us : List U) {vs : List V} {ds : List PyData}, m.RUs al H us vs → dats f us = some ds → DpAll m.K H vs ds
  | [], vs, ds, r, e => by
    obtain rfl := (show vs = _ from r)
    cases e
    exact .nil
  | u :: us, vs, ds, r, e => by
    obtain ⟨v, t, rfl, h1, h2⟩ := r
    rw [dats] at e
    cases q : dat f u with
    | none => rw [q] at e; cases e
    | some d =>
      rw [q] at e
      cases q2 : dats f us with
      | none => rw [q2] at e; cases e
      | some ds' =>
        rw [q2] at e
        cases e
        exact .cons (dat_ok hf u h1 q) (dats_ok hf us h2 q2)
end
theorem datR_ok {al : List Addr} {H : Hp} {st : Sto} (h : m.RH al H st) : ∀ n : Nat, DOk m al H (datR st n)
  | 0 => fun i d a e _ => by cases e
  | n + 1 => fun i d a e ha => by
    rw [datR] at e
    cases q : st[i]? with
    | none => rw [q] at e; cases e
    | some o =>
      rw [q] at e
      cases o with
      | lst l =>
        obtain ⟨b, vs, e1, e2, e3, e4⟩ := lst_of (v := .ref a) h ⟨a, rfl, ha⟩ q
        cases e1
        cases q2 : dats (datR st n) l with
        | none =>
          simp only [q2] at e
          cases e
        | some ds =>
          simp only [q2] at e
          cases e
          exact .lst (SqL.of e3) (dats_ok (datR_ok h n) l e4 q2)
      | dk _ => cases e
      | dn _ => cases e
      | ins _ _ => cases e
theorem datU_ok {al : List Addr} {H : Hp} {st : Sto} {u : U} {v : V} {d : PyData} (h : m.RH al H st) (r : m.RU al H u v) (e : datU st u = some d) : Dp m.K H v d := dat_ok (datR_ok h 6) u r e
/-- data without references -/
theorem dat0_ok {al : List Addr} {H : Hp} {u : U} {v : V} {d : PyData} (r : m.RU al H u v) (e : dat (fun _ => none) u = some d) : Dp m.K H v d := dat_ok (fun _ _ _ z => by cases z) u r e
theorem dats0_ok {al : List Addr} {H : Hp} {us : List U} {vs : List V} {ds : List PyData} (r : m.RUs al H us vs) (e : dats (fun _ => none) us = some ds) : DpAll m.K H vs ds := dats_ok (fun _ _ _ z => by cases z) us r e

/-! ### == -/
def rEqU (m : Mm) (b : Bool) : R2 := fun x y H Q => ∃ al st u1 u2 c, m.RH al H st ∧ m.RU al H u1 x ∧ m.RU al H u2 y ∧ eqU st u1 u2 = some c ∧ Q (.bl (if b then c else !c)) H
theorem eq_ok (g : Gx m X) : OpR X (compareOp .Eq) (rEqU m true) := by
  rintro pins s σ H x y v u Q I rx ry ⟨al, st, u1, u2, c, h, r1, r2, e, q⟩
  unfold eqU at e
  split at e
  · rename_i x' y' e1 e2
    split at e
    · rename_i hz
      cases e
      have p1 := sV_rel e1 r1
      have p2 := sV_rel e2 r2
      subst p1 p2
      exact op_eq pins s σ H x y v u Q I rx ry ⟨hz, q⟩
    · cases e
  · split at e
    · rename_i d d' e1 e2
      split at e
      · rename_i hz
        cases e
        exact op_eqD (by have := g.un; omega) pins s σ H x y v u Q I rx ry ⟨d, d', g.hK ▸ datU_ok h r1 e1, g.hK ▸ datU_ok h r2 e2, hz.1, hz.2, q⟩
      · cases e
    · cases e
theorem ne_ok (g : Gx m X) : OpR X (compareOp .NotEq) (rEqU m false) := by
  rintro pins s σ H x y v u Q I rx ry ⟨al, st, u1, u2, c, h, r1, r2, e, q⟩
  unfold eqU at e
  split at e
  · rename_i x' y' e1 e2
    split at e
    · rename_i hz
      cases e
      have p1 := sV_rel e1 r1
      have p2 := sV_rel e2 r2
      subst p1 p2
      exact op_ne pins s σ H x y v u Q I rx ry ⟨hz, q⟩
    · cases e
  · split at e
    · rename_i d d' e1 e2
      split at e
      · rename_i hz
        cases e
        exact op_neD (by have := g.un; omega) pins s σ H x y v u Q I rx ry ⟨d, d', g.hK ▸ datU_ok h r1 e1, g.hK ▸ datU_ok h r2 e2, hz.1, hz.2, q⟩
      · cases e
    · cases e
end
end Cw

set_option Elab.async false
set_option linter.all false
set_option maxRecDepth 100000
set_option maxHeartbeats 1000000
/-! dicts, membership, order -/
namespace Cw
open PySem PySem.Spec PyProof.Rows L2
section
variable {m : Mm} {X : Cx} {pins : List (Addr × Obj)} {σ : L2.St} {H : Hp} {s : Shared} {al : List Addr} {st : Sto}
/-! ### keys -/
mutual
theorem ukey_of : ∀ (u : U) {k : NestedKey}, nkey u = some k → ukey k = u
  | .non, _, e => by cases e; rfl
  | .bl _, _, e => by cases e
  | .int _, _, e => by cases e; rfl
  | .str _, _, e => by cases e; rfl
  | .tup l, k, e => by
    rw [nkey] at e
    cases q : nkeys l with
    | none => rw [q] at e; cases e
    | some ks =>
      rw [q] at e
      cases e
      rw [ukey, ukeys_of l q]
  | .fl _, _, e => by cases e
  | .ref _, _, e => by cases e
  | .err _, _, e => by cases e
theorem ukeys_of : ∀ (us : List U) {ks : List NestedKey}, nkeys us = some ks → ukeys ks = us
  | [], _, e => by cases e; rfl
  | u :: us, ks, e => by
    rw [nkeys] at e
    cases q : nkey u with
    | none => rw [q] at e; cases e
    | some k =>
      rw [q] at e
      cases q2 : nkeys us with
      | none => rw [q2] at e; cases e
      | some ks' =>
        rw [q2] at e
        cases e
        rw [ukeys, ukey_of u q, ukeys_of us q2]
end
theorem tkey_of {u : U} {k : NestedKey} (e : tkey u = some k) : ukey k = u ∧ k.depth ≤ 8 ∧ ∃ l, u = .tup l := by
  cases u with
  | tup l =>
    have e' : (match nkey (.tup l) with | some k => if k.depth ≤ 8 then some k else none | none => none) = some k := e
    cases q : nkey (.tup l) with
    | none => rw [q] at e'; cases e'
    | some k' =>
      rw [q] at e'
      simp only at e'
      split at e'
      · rename_i hd
        cases e'
        exact ⟨ukey_of _ q, hd, l, rfl⟩
      · cases e'
  | non => cases e
  | bl _ => cases e
  | int _ => cases e
  | str _ => cases e
  | fl _ => cases e
  | ref _ => cases e
  | err _ => cases e
mutual
theorem nested_is (I : Inv X pins σ H s) : ∀ (k : NestedKey) {v : V} {u : Value}, RelU m.KK al H (ukey k) v → RelV v u → NestedIs s.heap k u
  | .none, v, u, r, rv => by
    obtain rfl := (show v = _ from r)
    obtain rfl := (show u = _ from rv)
    exact .none
  | .num i, v, u, r, rv => by
    obtain rfl := (show v = _ from r)
    obtain ⟨t, rfl⟩ := rv
    exact .int i t
  | .text i, v, u, r, rv => by
    obtain rfl := (show v = _ from r)
    obtain ⟨t, rfl⟩ := rv
    exact .text i t
  | .tup ks, v, u, r, rv => by
    obtain ⟨a, vs, rfl, h1, h2⟩ := (show ∃ a vs, v = .ref a ∧ H a = some (.tup vs) ∧ RelUs m.KK al H (ukeys ks) vs from r)
    obtain rfl := (show u = _ from rv)
    obtain ⟨its, q, ⟨o, ho, hc, n, hd⟩, _⟩ := I.tuple (SqT.of h1)
    exact .tup ho hc hd (by simpa using nested_all I ks h2 q)
theorem nested_all (I : Inv X pins σ H s) : ∀ (ks : List NestedKey) {vs : List V} {us : List Value}, RelUs m.KK al H (ukeys ks) vs → Vals vs us → NestedAll s.heap ks us
  | [], vs, us, r, rv => by
    obtain rfl := (show vs = _ from r)
    cases rv
    exact .nil
  | k :: ks, vs, us, r, rv => by
    obtain ⟨v, t, rfl, h1, h2⟩ := (show ∃ v r, vs = v :: r ∧ RelU m.KK al H (ukey k) v ∧ RelUs m.KK al H (ukeys ks) r from r)
    cases rv with
    | cons r1 r2 => exact .cons (nested_is I k h1 r1) (nested_all I ks h2 r2)
end
theorem nk_is (I : Inv X pins σ H s) {k : NestedKey} {b : Addr} (hd : k.depth ≤ 8) (r : RelU m.KK al H (ukey k) (.ref b)) : (nestedKind X.prog X.w).is s.heap k b := ⟨nested_is I k r rfl, hd⟩
theorem nk_room (g : Gx m X) : (nestedKind X.prog X.w).room X.A.in1 := by
  show X.A.units + 1 + 8 < cLine
  have := g.un
  omega

/-! ### look-ups -/
theorem kget_pair {κ β : Type} [DecidableEq κ] {F : U → β → Prop} {G : κ × U → κ × β → Prop} (hG : ∀ p q, G p q → p.1 = q.1 ∧ F p.2 q.2) {kvs : List (κ × U)} {ws : List (κ × β)} (r : Paired G kvs ws) (k : κ) :
    (kget kvs k = none ∧ ws.find? (fun p => decide (p.1 = k)) = none) ∨ ∃ u b, kget kvs k = some u ∧ ws.find? (fun p => decide (p.1 = k)) = some (k, b) ∧ F u b := by
  induction r with
  | nil => exact .inl ⟨rfl, rfl⟩
  | @cons p q kvs ws h t ih =>
    obtain ⟨p1, p2⟩ := p
    obtain ⟨q1, q2⟩ := q
    obtain ⟨e1, e2⟩ := hG _ _ h
    simp only at e1 e2
    subst e1
    by_cases z : p1 = k
    · subst z
      exact .inr ⟨p2, q2, by simp [kget], by simp, e2⟩
    · rcases ih with ⟨i1, i2⟩ | ⟨u, b, i1, i2, i3⟩
      · exact .inl ⟨by simp [kget, z, i1], by simp [z, i2]⟩
      · exact .inr ⟨u, b, by simp [kget, z, i1], by simp [z, i2], i3⟩
abbrev PK (m : Mm) (al : List Addr) (H : Hp) : Key × U → Key × V → Prop := fun p q => p.1 = q.1 ∧ RelU m.KK al H p.2 q.2
theorem kget_K {kvs : List (Key × U)} {ws : List (Key × V)} (r : Paired (PK m al H) kvs ws) (k : Key) : (kget kvs k = none ∧ valV ws k = none) ∨ ∃ u v, kget kvs k = some u ∧ valV ws k = some v ∧ RelU m.KK al H u v := by
  rcases kget_pair (F := RelU m.KK al H) (fun _ _ h => h) r k with ⟨h1, h2⟩ | ⟨u, b, h1, h2, h3⟩
  · exact .inl ⟨h1, by unfold valV; rw [h2]; rfl⟩
  · exact .inr ⟨u, b, h1, by unfold valV; rw [h2]; rfl, h3⟩
theorem kget_N {kvs : List (NestedKey × U)} {ws : List (NestedKey × Addr × Value)} (r : Paired (RelN m.KK al H) kvs ws) (k : NestedKey) : (kget kvs k = none ∧ atKey ws k = none) ∨ ∃ u p, kget kvs k = some u ∧ atKey ws k = some p ∧ ∃ v, RelV v p.2 ∧ RelU m.KK al H u v := by
  rcases kget_pair (F := fun u (p : Addr × Value) => ∃ v, RelV v p.2 ∧ RelU m.KK al H u v) (fun _ _ h => ⟨h.1, h.2.2.2⟩) r k with ⟨h1, h2⟩ | ⟨u, b, h1, h2, h3⟩
  · exact .inl ⟨h1, by unfold atKey; rw [h2]; rfl⟩
  · exact .inr ⟨u, b, h1, by unfold atKey; rw [h2]; rfl, h3⟩
theorem keyU_kV {u : U} {k : Key} {v : V} (e : keyU u = some k) (r : RelU m.KK al H u v) : v = kV k := by
  cases u <;> first | (cases e; exact r) | cases e
theorem uKey_rel (k : Key) : RelU m.KK al H (uKey k) (kV k) := by
  cases k <;> exact rfl
/-- the dict with tuple keys in the heap -/
theorem dn_of (g : Gx m X) (I : Inv X pins σ H s) {a : Addr} {kvs : List (NestedKey × U)} {xs : List (NestedKey × Addr × Value)} (e : H a = some (.ext (DX m.P m.w a xs))) (r : Paired (RelN m.KK al H) kvs xs) :
    (a == sysModules) = false ∧ xs.length ≤ sizeLine ∧ s.heap.DictOfH (nestedKind X.prog X.w) a xs := by
  obtain ⟨⟨h1, h2, o, es, ep, ho, hc, hd, he, hn⟩, _, _⟩ := (show ObjOk X.prog X.w H s.heap a (.ext (DX m.P m.w a xs)) from I.hok a _ e)
  refine ⟨h1, h2, o, es, ep, ho, hc, hd, by rw [g.hP, g.hw]; exact he, fun x hx => ?_, hn⟩
  obtain ⟨i, hi⟩ := List.getElem?_of_mem hx
  have hl : i < kvs.length := by
    rw [Paired.length r]
    exact (List.getElem?_eq_some_iff.mp hi).1
  obtain ⟨q, hq, h⟩ := paired_get r (List.getElem?_eq_getElem hl)
  rw [hi] at hq
  cases hq
  obtain ⟨z1, z2, z3, _⟩ := h
  rw [← z1]
  exact nk_is I z2 z3

/-! ### in -/
def rInU (m : Mm) (b : Bool) : R2 := fun x y H Q => ∃ al st u1 u2 c, m.RH al H st ∧ m.RU al H u1 x ∧ m.RU al H u2 y ∧ inU st u1 u2 = some c ∧ Q (.bl (if b then c else !c)) H
theorem svs_rel : ∀ {l : List U} {xs vs : List V}, l.mapM sV = some xs → RelUs m.KK al H l vs → vs = xs
  | [], xs, vs, e, r => by
    obtain rfl := (show vs = _ from r)
    simpa using e
  | u :: l, xs, vs, e, r => by
    obtain ⟨v, t, rfl, h1, h2⟩ := r
    cases q : sV u with
    | none => simp [q] at e
    | some y =>
      cases q2 : l.mapM sV with
      | none => simp [q, q2] at e
      | some ys =>
        simp [q, q2] at e
        subst e
        rw [sV_rel q h1, svs_rel q2 h2]
theorem in_ok (g : Gx m X) : OpR X (compareOp .In) (rInU m true) := by
  rintro pins s σ H x y v u Q I rx ry ⟨al, st, u1, u2, c, h, r1, r2, e, q⟩
  have hun := g.un
  unfold inU at e
  split at e
  · split at e
    · cases e
      exact op_in_str pins s σ H x y v u Q I rx ry ⟨_, _, r1, r2, q⟩
    · cases e
  · split at e
    · rename_i l x' e1
      split at e
      · rename_i xs e2
        split at e
        · rename_i hz
          cases e
          obtain ⟨a, vs, rfl, h1, h2⟩ := r2
          obtain rfl := sV_rel e1 r1
          obtain rfl := svs_rel e2 h2
          exact op_in_seq pins s σ H _ _ v u Q I rx ry ⟨a, _, rfl, .inr (SqT.of h1), hz.1, hz.2, q⟩
        · cases e
      · cases e
    · cases e
  · cases e
  · rename_i i
    split at e
    · rename_i l e0
      split at e
      · rename_i d ds e1 e2
        split at e
        · rename_i hz
          cases e
          obtain ⟨a, vs, rfl, h1, h2, h3⟩ := lst_of h r2 e0
          exact op_inD (by omega) pins s σ H _ _ v u Q I rx ry ⟨d, ds, g.hK ▸ datU_ok h r1 e1, .lst (SqL.of h2) (g.hK ▸ dats_ok (datR_ok h 5) l h3 e2), hz.1, hz.2, q⟩
        · cases e
      · cases e
    · rename_i kvs e0
      split at e
      · rename_i k e1
        cases e
        obtain ⟨a, rfl, h1, ws, h2, h3⟩ := h.ref r2 e0
        obtain rfl := (show u = .ref a from ry)
        refine d_in (o := valV ws k) (by omega) I (.inl ⟨ws, k, Rd.of h2, keyU_kV e1 r1, rfl⟩) rx fun s' I' => ⟨.bl _, H, I', ?_, q⟩
        rcases kget_K h3 k with ⟨z1, z2⟩ | ⟨_, _, z1, z2, _⟩ <;> (rw [z1, z2]; rfl)
      · cases e
    · rename_i kvs e0
      split at e
      · rename_i k e1
        cases e
        obtain ⟨a, rfl, h1, ws, h2, h3⟩ := h.ref r2 e0
        obtain rfl := (show u = .ref a from ry)
        obtain ⟨k1, k2, l, k3⟩ := tkey_of e1
        rw [← k1] at r1
        obtain ⟨b, rfl⟩ : ∃ b, x = .ref b := by
          rw [k1, k3] at r1
          obtain ⟨b, _, e, _⟩ := r1
          exact ⟨b, e⟩
        obtain rfl := (show v = .ref b from rx)
        obtain ⟨d1, d2, d3⟩ := dn_of g I h2 h3
        refine wpAny_in_heap (nk_room g) (nk_is I k2 r1) d1 d3 ⟨.bl _, H, I.tok _, ?_, q⟩
        rcases kget_N h3 k with ⟨z1, z2⟩ | ⟨_, _, z1, z2, _⟩ <;> (rw [z1, z2]; rfl)
      · cases e
    · cases e
  · cases e
theorem notin_ok (g : Gx m X) : OpR X (compareOp .NotIn) (rInU m false) := by
  rintro pins s σ H x y v u Q I rx ry ⟨al, st, u1, u2, c, h, r1, r2, e, q⟩
  have hun := g.un
  unfold inU at e
  split at e
  · split at e
    · cases e
      exact op_notin_str pins s σ H x y v u Q I rx ry ⟨_, _, r1, r2, q⟩
    · cases e
  · split at e
    · rename_i l x' e1
      split at e
      · rename_i xs e2
        split at e
        · rename_i hz
          cases e
          obtain ⟨a, vs, rfl, h1, h2⟩ := r2
          obtain rfl := sV_rel e1 r1
          obtain rfl := svs_rel e2 h2
          exact op_notIn_seq pins s σ H _ _ v u Q I rx ry ⟨a, _, rfl, .inr (SqT.of h1), hz.1, hz.2, q⟩
        · cases e
      · cases e
    · cases e
  · cases e
  · rename_i i
    split at e
    · rename_i l e0
      split at e
      · rename_i d ds e1 e2
        split at e
        · rename_i hz
          cases e
          obtain ⟨a, vs, rfl, h1, h2, h3⟩ := lst_of h r2 e0
          exact op_notInD (by omega) pins s σ H _ _ v u Q I rx ry ⟨d, ds, g.hK ▸ datU_ok h r1 e1, .lst (SqL.of h2) (g.hK ▸ dats_ok (datR_ok h 5) l h3 e2), hz.1, hz.2, q⟩
        · cases e
      · cases e
    · rename_i kvs e0
      split at e
      · rename_i k e1
        cases e
        obtain ⟨a, rfl, h1, ws, h2, h3⟩ := h.ref r2 e0
        obtain rfl := (show u = .ref a from ry)
        refine d_notIn (o := valV ws k) (by omega) I (.inl ⟨ws, k, Rd.of h2, keyU_kV e1 r1, rfl⟩) rx fun s' I' => ⟨.bl _, H, I', ?_, q⟩
        rcases kget_K h3 k with ⟨z1, z2⟩ | ⟨_, _, z1, z2, _⟩ <;> (rw [z1, z2]; rfl)
      · cases e
    · rename_i kvs e0
      split at e
      · rename_i k e1
        cases e
        obtain ⟨a, rfl, h1, ws, h2, h3⟩ := h.ref r2 e0
        obtain rfl := (show u = .ref a from ry)
        obtain ⟨k1, k2, l, k3⟩ := tkey_of e1
        rw [← k1] at r1
        obtain ⟨b, rfl⟩ : ∃ b, x = .ref b := by
          rw [k1, k3] at r1
          obtain ⟨b, _, e, _⟩ := r1
          exact ⟨b, e⟩
        obtain rfl := (show v = .ref b from rx)
        obtain ⟨d1, d2, d3⟩ := dn_of g I h2 h3
        refine wpAny_notIn_heap (nk_room g) (nk_is I k2 r1) d1 d3 ⟨.bl _, H, I.tok _, ?_, q⟩
        rcases kget_N h3 k with ⟨z1, z2⟩ | ⟨_, _, z1, z2, _⟩ <;> (rw [z1, z2]; rfl)
      · cases e
    · cases e
  · cases e

/-! ### < -/
def rLtU (m : Mm) : R2 := fun x y H Q => ∃ al st u1 u2 c, m.RH al H st ∧ m.RU al H u1 x ∧ m.RU al H u2 y ∧ ltU st u1 u2 = some c ∧ Q (.bl c) H
theorem lt_ok (g : Gx m X) : OpR X (compareOp .Lt) (rLtU m) := by
  rintro pins s σ H x y v u Q I rx ry ⟨al, st, u1, u2, c, h, r1, r2, e, q⟩
  have hun := g.un
  unfold ltU at e
  split at e
  · cases e
    exact op_lt pins s σ H x y v u Q I rx ry ⟨_, _, r1, r2, q⟩
  · split at e
    · rename_i d d' e1 e2
      split at e
      · rename_i hz
        cases e
        obtain ⟨as, p1⟩ := Dp.reads I d x v (g.hK ▸ datU_ok h r1 e1) rx
        obtain ⟨bs, p2⟩ := Dp.reads I d' y u (g.hK ▸ datU_ok h r2 e2) ry
        show wpAny _ _ (richCompare .Lt v u) _ _ _
        refine PySem.W.rcLt_alike d d' X.A s v u as bs p1 p2 hz.2.2.1 (fun z => ?_) ?_ _ _ _ _ ⟨.bl _, H, I, rfl, q⟩
        · rw [z] at hz
          exact absurd hz.2.2.2 (by decide)
        · have := hz.1
          have := Nat.min_le_left d.depth d'.depth
          omega
      · cases e
    · cases e
end
end Cw

set_option Elab.async false
set_option linter.all false
set_option maxRecDepth 100000
set_option maxHeartbeats 1000000
/-! subscripts, built-ins, methods by values -/
namespace Cw
open PySem PySem.Spec PyProof.Rows L2
/-! ### sorting -/
section
variable {α : Type} {le : α → α → Bool}
theorem ins_perm (x : α) : ∀ l : List α, (ins le x l).Perm (x :: l)
  | [] => .refl _
  | y :: r => by
    unfold ins
    split
    · exact .refl _
    · exact ((ins_perm x r).cons y).trans (.swap x y r)
theorem ins_pair (h : PySem.W.TotalLe le) (x : α) : ∀ l : List α, l.Pairwise (fun a b => le a b = true) → (ins le x l).Pairwise (fun a b => le a b = true)
  | [], _ => List.pairwise_singleton ..
  | y :: r, p => by
    unfold ins
    have p' := List.pairwise_cons.mp p
    split
    · rename_i q
      exact List.pairwise_cons.mpr ⟨fun z hz => (List.mem_cons.mp hz).elim (fun e => e ▸ q) fun hz => h.trans _ _ _ q (p'.1 z hz), p⟩
    · rename_i q
      refine List.pairwise_cons.mpr ⟨fun z hz => ?_, ins_pair h x r p'.2⟩
      rcases List.mem_cons.mp ((ins_perm x r).mem_iff.mp hz) with e | hz
      · subst e
        exact (h.total z y).resolve_left q
      · exact p'.1 z hz
theorem ins_filter (h : PySem.W.TotalLe le) (c x : α) : ∀ l : List α, l.Pairwise (fun a b => le a b = true) → (ins le x l).filter (PySem.W.sameRank le c) = (x :: l).filter (PySem.W.sameRank le c)
  | [], _ => rfl
  | y :: r, p => by
    unfold ins
    have p' := List.pairwise_cons.mp p
    split
    · rfl
    · rename_i q
      have ih := ins_filter h c x r p'.2
      rw [List.filter_cons, ih]
      by_cases hx : PySem.W.sameRank le c x = true
      · have hy : ¬ PySem.W.sameRank le c y = true := fun hy => by
          unfold PySem.W.sameRank at hx hy
          rw [Bool.and_eq_true] at hx hy
          exact q (h.trans _ _ _ hx.2 hy.1)
        simp [hx, hy]
      · simp [hx, List.filter_cons]
theorem isort_ok (h : PySem.W.TotalLe le) : ∀ l : List α, (isort le l).Pairwise (fun a b => le a b = true) ∧ (∀ c, (isort le l).filter (PySem.W.sameRank le c) = l.filter (PySem.W.sameRank le c))
  | [] => ⟨List.Pairwise.nil, fun _ => rfl⟩
  | x :: r => by
    obtain ⟨h1, h2⟩ := isort_ok h r
    refine ⟨ins_pair h x _ h1, fun c => ?_⟩
    show (ins le x (isort le r)).filter _ = _
    rw [ins_filter h c x _ h1, List.filter_cons, List.filter_cons, h2 c]
theorem isort_eq (h : PySem.W.TotalLe le) (l : List α) : isort le l = l.mergeSort le := PySem.W.sort_unique h (isort_ok h l).1 (isort_ok h l).2
end
section
variable {m : Mm} {X : Cx}
theorem each_of {al : List Addr} {H : Hp} : ∀ {us : List U} {vs : List V} {ws : List Value}, RelUs m.KK al H us vs → Vals vs ws → PySem.W.EachIs (fun (w : Value) (u : U) => ∃ v, RelV v w ∧ m.RU al H u v) ws us
  | [], vs, ws, r, rv => by
    obtain rfl := (show vs = _ from r)
    cases rv
    exact .nil
  | u :: us, vs, ws, r, rv => by
    obtain ⟨v, t, rfl, h1, h2⟩ := r
    cases rv with
    | cons r1 r2 => exact .cons ⟨v, r1, h1⟩ (each_of h2 r2)
theorem of_each {al : List Addr} {H : Hp} : ∀ {us : List U} {ws : List Value}, PySem.W.EachIs (fun (w : Value) (u : U) => ∃ v, RelV v w ∧ m.RU al H u v) ws us → ∃ vs, RelUs m.KK al H us vs ∧ Vals vs ws
  | _, _, .nil => ⟨[], rfl, .nil⟩
  | _, _, .cons ⟨v, r1, h1⟩ t => by
    obtain ⟨vs, h2, r2⟩ := of_each t
    exact ⟨v :: vs, ⟨v, vs, rfl, h1, h2⟩, .cons r1 r2⟩
theorem dats_map {f : Nat → Option PyData} : ∀ {us : List U} {ds : List PyData}, dats f us = some ds → ds.length = us.length ∧ ∀ (i : Nat) (u : U), us[i]? = some u → dat f u = ds[i]?
  | [], ds, e => by cases e; exact ⟨rfl, fun i u z => by simp at z⟩
  | x :: us, ds, e => by
    rw [dats] at e
    cases q : dat f x with
    | none => rw [q] at e; cases e
    | some d =>
      rw [q] at e
      cases q2 : dats f us with
      | none => rw [q2] at e; cases e
      | some ds' =>
        rw [q2] at e
        cases e
        obtain ⟨h1, h2⟩ := dats_map q2
        refine ⟨by simp [h1], fun i u z => ?_⟩
        cases i with
        | zero => simp at z; subst z; simpa using q
        | succ i => simp at z; simpa using h2 i u z
theorem dats_eq {us : List U} {ds : List PyData} (e : dats (fun _ => none) us = some ds) : ds = us.map datD := by
  obtain ⟨h1, h2⟩ := dats_map e
  apply List.ext_getElem?
  intro i
  rw [List.getElem?_map]
  cases q : us[i]? with
  | none =>
    have := List.getElem?_eq_none_iff.mp q
    rw [List.getElem?_eq_none (by omega)]
    rfl
  | some u =>
    have h3 := h2 i u q
    have hl : i < ds.length := by
      rw [h1]
      exact (List.getElem?_eq_some_iff.mp q).1
    rw [List.getElem?_eq_getElem hl] at h3 ⊢
    show _ = some (datD u)
    unfold datD
    rw [h3]
    rfl
theorem each_reads {X : Cx} {pins : List (Addr × Obj)} {σ : L2.St} {H : Hp} {s : Shared} {al : List Addr} (hK : X.K = m.K) (I : Inv X pins σ H s) : ∀ {us : List U} {vs : List V} {ws : List Value} {ds : List PyData}, RelUs m.KK al H us vs → Vals vs ws → dats (fun _ => none) us = some ds →
    PySem.W.EachIs (fun (w : Value) (u : U) => ∃ as, Reads s.heap w (datD u) as) ws us
  | [], vs, ws, ds, r, rv, e => by
    obtain rfl := (show vs = _ from r)
    cases rv
    exact .nil
  | u :: us, vs, ws, ds, r, rv, e => by
    obtain ⟨v, t, rfl, h1, h2⟩ := r
    rw [dats] at e
    cases q : dat (fun _ => none) u with
    | none => rw [q] at e; cases e
    | some d =>
      rw [q] at e
      cases q2 : dats (fun _ => none) us with
      | none => rw [q2] at e; cases e
      | some ds' =>
        cases rv with
        | cons r1 r2 =>
          refine .cons ?_ (each_reads hK I h2 r2 q2)
          have hd : datD u = d := by unfold datD; rw [q]; rfl
          rw [hd]
          exact Dp.reads I d v _ (hK ▸ dat0_ok h1 q) r1
theorem sortable_of {ds : List PyData} (h : sortableB ds = true) : PySem.W.Sortable ds := by
  unfold sortableB at h
  rw [Bool.or_eq_true, List.all_eq_true, List.all_eq_true] at h
  rcases h with h | h
  · refine .inl fun d hd => ?_
    have := h d hd
    split at this
    · exact ⟨_, _, rfl⟩
    · cases this
  · refine .inr fun d hd => ?_
    have := h d hd
    split at this
    · cases this
    · cases this
    · rename_i n1 n2
      exact ⟨n1, fun xs e => n2 xs e⟩
theorem alike_of {ds : List PyData} (h : allAlike ds = true) : PySem.W.AllAlike ds := fun d hd e he => by
  unfold allAlike at h
  rw [List.all_eq_true] at h
  have := h d hd
  rw [List.all_eq_true] at this
  exact this e he

/-! ### subscripts -/
theorem subTail {prog : Program} {w : World} {A : Around} {E : Value → Shared → Prop} {s : Shared} {value slice : Expr} {o i : Value} {T id : String} {Q : Value → Shared → Prop} (hT : s.TypeIs o T)
    (hl : typeLookup (.type T) "__getitem__" = pure (some (.builtin id))) (hs : subscripted slice false o i = operate [o, i] (getItem o i)) (h : wpAny (model prog w) A (getItem o i) Q E s) :
    wpAny (model prog w) A (subscriptTail value slice o i) Q E s := by
  unfold subscriptTail
  refine wpAny_bind ?_
  rw [getitemInPython_of_ne hT.not_modules]
  refine wpAny_bind (wpAny_specialOf hT hl ?_)
  have fin : wpAny (model prog w) A (subscripted slice false o i) (fun r s₃ => wpAny (model prog w) A (letTemporaryGo value o r >>= fun _ => pure r) Q E s₃) E s := by
    rw [hs]
    exact wpAny_operating (wpAny_mono h (fun r s₃ h₃ => wpAny_bind (wpAny_letTemporaryGo (wpAny_pure h₃))) fun _ _ x => x)
  first
    | exact wpAny_pure (wpAny_bind fin)
    | exact wpAny_bind (wpAny_pure (wpAny_bind fin))
    | exact wpAny_bind fin
abbrev rF2 (m : Mm) (f : U → U → Sto → M U) : R2 := rB m f
theorem ix_ok (g : Gx m X) : IxR X (rB m idxU) := by
  intro value slice pins s σ H x y v u Q I rx ry h hs
  obtain ⟨al, st, u1, u2, w, st', h, r1, r2, e, q⟩ := h
  have hun := g.un
  unfold idxU at e
  split at e
  · rename_i n
    split at e
    · rename_i l e0
      split at e
      · rename_i k
        split at e
        · rename_i z e1
          cases e
          obtain ⟨a, vs, rfl, h1, h2, h3⟩ := lst_of h r1 e0
          obtain ⟨j, e2⟩ : ∃ j, ixN l.length k = some j ∧ l[j]? = some w := by
            unfold atI at e1
            cases q : ixN l.length k with
            | none => rw [q] at e1; cases e1
            | some j => rw [q] at e1; exact ⟨j, rfl, e1⟩
          obtain ⟨z', e3, e4⟩ := h3.get e2.2
          exact ix_list value slice pins s σ H _ _ v u Q I rx ry ⟨a, vs, k, z', rfl, r2, SqL.of h2, by unfold atI; rw [← h3.len, e2.1]; exact e3, want_same h q e4⟩ hs
        · cases e
      · cases e
    · rename_i kvs e0
      split at e
      · rename_i k e1
        split at e
        · rename_i z e2
          cases e
          obtain ⟨a, rfl, h1, ws, h2, h3⟩ := h.ref r1 e0
          obtain rfl := (show v = .ref a from rx)
          rcases kget_K h3 k with ⟨z1, z2⟩ | ⟨u0, v0, z1, z2, z3⟩
          · rw [z1] at e2; cases e2
          · rw [z1] at e2
            cases e2
            have gt : DGet H a y (some v0) := .inl ⟨ws, k, Rd.of h2, keyU_kV e1 r2, z2.symm⟩
            exact subTail (dict_typeIs I gt) PySem.F.slot_dict_getitem.lookup hs (d_getItem (by omega) I gt ry fun w' s3 I3 rw' => ⟨v0, H, I3, rw', want_same h q z3⟩)
        · cases e
      · cases e
    · rename_i kvs e0
      split at e
      · rename_i k e1
        split at e
        · rename_i z e2
          cases e
          obtain ⟨a, rfl, h1, ws, h2, h3⟩ := h.ref r1 e0
          obtain rfl := (show v = .ref a from rx)
          obtain ⟨k1, k2, l, k3⟩ := tkey_of e1
          have r2' := r2
          rw [← k1] at r2'
          obtain ⟨b, rfl⟩ : ∃ b, y = .ref b := by
            rw [k3] at r2
            obtain ⟨b, _, e, _⟩ := r2
            exact ⟨b, e⟩
          obtain rfl := (show u = .ref b from ry)
          obtain ⟨d1, d2, d3⟩ := dn_of g I h2 h3
          rcases kget_N h3 k with ⟨z1, z2⟩ | ⟨u0, p0, z1, z2, v0, z3, z4⟩
          · rw [z1] at e2; cases e2
          · rw [z1] at e2
            cases e2
            exact subTail d3.typeIs PySem.F.slot_dict_getitem.lookup hs (wpAny_getItem_heap (nk_room g) (nk_is I k2 r2') d3 z2 ⟨v0, H, I.tok _, z3, want_same h q z4⟩)
        · cases e
      · cases e
    · cases e
  · rename_i l
    split at e
    · rename_i k
      split at e
      · rename_i z e1
        cases e
        obtain ⟨a, vs, rfl, h2, h3⟩ := r1
        obtain ⟨j, e2⟩ : ∃ j, ixN l.length k = some j ∧ l[j]? = some w := by
          unfold atI at e1
          cases q : ixN l.length k with
          | none => rw [q] at e1; cases e1
          | some j => rw [q] at e1; exact ⟨j, rfl, e1⟩
        obtain ⟨z', e3, e4⟩ := h3.get e2.2
        exact ix_tup value slice pins s σ H _ _ v u Q I rx ry ⟨a, vs, k, z', rfl, r2, SqT.of h2, by unfold atI; rw [← h3.len, e2.1]; exact e3, want_same h q e4⟩ hs
      · cases e
    · cases e
  · rename_i l
    split at e
    · rename_i k
      split at e
      · rename_i z e1
        cases e
        obtain ⟨a, vs, rfl, h2, h3⟩ := r1
        obtain ⟨j, e2⟩ : ∃ j, ixN l.length k = some j ∧ l[j]? = some w := by
          unfold atI at e1
          cases q : ixN l.length k with
          | none => rw [q] at e1; cases e1
          | some j => rw [q] at e1; exact ⟨j, rfl, e1⟩
        obtain ⟨z', e3, e4⟩ := h3.get e2.2
        exact ix_list value slice pins s σ H _ _ v u Q I rx ry ⟨a, vs, k, z', rfl, r2, g.hK ▸ h2.sq, by unfold atI; rw [← h3.len, e2.1]; exact e3, want_same h q e4⟩ hs
      · cases e
    · cases e
  · rename_i x'
    split at e
    · rename_i k
      split at e
      · rename_i hz
        split at e
        · rename_i c e1
          cases e
          exact ix_str value slice pins s σ H _ _ v u Q I rx ry ⟨x', k, c, r1, r2, by rw [← lim_eq]; exact hz, e1, want_same h q rfl⟩ hs
        · cases e
      · cases e
    · cases e
  · cases e
end
end Cw

set_option Elab.async false
set_option linter.all false
set_option maxRecDepth 100000
set_option maxHeartbeats 1000000
namespace Cw
open PySem PySem.Spec PyProof.Rows L2
section
variable {m : Mm} {X : Cx}
/-! ### slices -/
def rSlU (m : Mm) : V → Option Int → Option Int → Hp → VK → Prop := fun x lo hi H Q => ∃ al st u1 u st', m.RH al H st ∧ m.RU al H u1 x ∧ sliceU u1 lo hi st = some (.ok u st') ∧ Want m al H u st' Q ∧
  (∀ l, u1 = .tup l → ¬ (HT.sIx l.length 0 lo = 0 ∧ HT.sIx l.length l.length hi = l.length))
theorem sl_ok (g : Gx m X) : SlR X (rSlU m) := by
  intro pins s σ H x v vl vu lo hi sl Q I rx hs pl pu h0
  obtain ⟨al, st, u1, w, st', h, r1, e, q, hw⟩ := h0
  unfold sliceU at e
  split at e
  · rename_i n
    split at e
    · rename_i l e0
      cases e
      obtain ⟨a, vs, rfl, h1, h2, h3⟩ := lst_of h r1 e0
      exact sl_list pins s σ H _ v vl vu lo hi sl Q I rx hs pl pu ⟨a, vs, rfl, SqL.of h2, fun p hp => want_lst h q (h3.cut lo hi) hp⟩
    · cases e
  · rename_i l
    cases e
    obtain ⟨a, vs, rfl, h2, h3⟩ := r1
    exact sl_list pins s σ H _ v vl vu lo hi sl Q I rx hs pl pu ⟨a, vs, rfl, g.hK ▸ h2.sq, fun p hp => want_lst h q (h3.cut lo hi) hp⟩
  · rename_i l
    split at e
    · cases e
    cases e
    obtain ⟨a, vs, rfl, h2, h3⟩ := r1
    exact sl_tup pins s σ H _ v vl vu lo hi sl Q I rx hs pl pu ⟨a, vs, rfl, SqT.of h2, by rw [← h3.len]; exact hw l rfl, fun p hp => want_tup h q (h3.cut lo hi) hp⟩
  · rename_i x'
    split at e
    · rename_i hz
      cases e
      exact sl_str pins s σ H _ v vl vu lo hi sl Q I rx hs pl pu ⟨x', r1, by rw [← lim_eq]; exact hz, want_same h q (show cutS x' lo hi |> V.str |> fun y => RelU m.KK al H (U.str _) y from rfl)⟩
    · cases e
  · cases e

/-! ### built-in functions -/
def rC (m : Mm) (b : Blt) : List V → Hp → VK → Prop := fun xs H Q => ∃ al st us u st', m.RH al H st ∧ m.RUs al H us xs ∧ bltU b us st = some (.ok u st') ∧ Want m al H u st' Q
theorem us1 {al : List Addr} {H : Hp} {u : U} {xs : List V} (r : m.RUs al H [u] xs) : ∃ v, xs = [v] ∧ m.RU al H u v := by
  obtain ⟨v, t, rfl, h1, h2⟩ := r
  obtain rfl := (show t = _ from h2)
  exact ⟨v, rfl, h1⟩
theorem us2 {al : List Addr} {H : Hp} {u u' : U} {xs : List V} (r : m.RUs al H [u, u'] xs) : ∃ v v', xs = [v, v'] ∧ m.RU al H u v ∧ m.RU al H u' v' := by
  obtain ⟨v, t, rfl, h1, h2⟩ := r
  obtain ⟨v', rfl, h3⟩ := us1 h2
  exact ⟨v, v', rfl, h1, h3⟩
theorem seqL_ok {al : List Addr} {H : Hp} {st : Sto} {u : U} {l : List U} {v : V} (hK : X.K = m.K) (h : m.RH al H st) (r : m.RU al H u v) (e : seqL st u = some l) : ∃ a vs, v = .ref a ∧ SqL X.K H a vs ∧ RelUs m.KK al H l vs := by
  unfold seqL at e
  split at e
  · split at e
    · rename_i e0
      cases e
      obtain ⟨a, vs, rfl, h1, h2, h3⟩ := lst_of h r e0
      exact ⟨a, vs, rfl, SqL.of h2, h3⟩
    · cases e
  · cases e
    obtain ⟨a, vs, rfl, h2, h3⟩ := r
    exact ⟨a, vs, rfl, hK ▸ h2.sq, h3⟩
  · cases e
theorem seqU_ok {al : List Addr} {H : Hp} {st : Sto} {u : U} {l : List U} {v : V} (hK : X.K = m.K) (h : m.RH al H st) (r : m.RU al H u v) (e : seqU st u = some l) : ∃ a vs, v = .ref a ∧ (SqL X.K H a vs ∨ SqT X.K H a vs) ∧ RelUs m.KK al H l vs := by
  unfold seqU at e
  split at e
  · cases e
    obtain ⟨a, vs, rfl, h2, h3⟩ := r
    exact ⟨a, vs, rfl, .inr (SqT.of h2), h3⟩
  · obtain ⟨a, vs, e1, h2, h3⟩ := seqL_ok hK h r e
    exact ⟨a, vs, e1, .inl h2, h3⟩
theorem len_ok (g : Gx m X) : CallR X (.builtin "len") (rC m .len) := by
  intro pins s σ H xs us Q I rv ⟨al, st, ws, u, st', h, r, e, q⟩
  unfold bltU at e
  split at e
  case h_1 x _ =>
    split at e
    · rename_i hz
      cases e
      obtain ⟨v, rfl, h1⟩ := us1 r
      exact call_len_str pins s σ H _ us Q I rv ⟨x, by rw [show v = V.str x from h1], by rw [← lim_eq]; exact hz, want_same h q rfl⟩
    · cases e
  case h_2 a _ _ =>
    split at e
    · rename_i l e0
      cases e
      obtain ⟨v, rfl, h1⟩ := us1 r
      obtain ⟨a, vs, rfl, h2, h3⟩ := seqU_ok g.hK h h1 e0
      exact call_len_seq pins s σ H _ us Q I rv ⟨a, vs, rfl, h2, want_same h q (by rw [h3.len]; rfl)⟩
    · cases e
  all_goals first | contradiction | cases e
theorem abs_ok (g : Gx m X) : CallR X (.builtin "abs") (rC m .abs) := by
  intro pins s σ H xs us Q I rv ⟨al, st, ws, u, st', h, r, e, q⟩
  unfold bltU at e
  split at e
  case h_3 i _ =>
    cases e
    obtain ⟨v, rfl, h1⟩ := us1 r
    obtain rfl := (show v = V.int i from h1)
    exact call_abs pins s σ H _ us Q I rv ⟨i, rfl, want_same h q rfl⟩
  all_goals first | contradiction | cases e
theorem min2_ok (g : Gx m X) (hc : X.calm = true) : CallR X (.builtin "min") (rC m .min2) := by
  intro pins s σ H xs us Q I rv ⟨al, st, ws, u, st', h, r, e, q⟩
  unfold bltU at e
  split at e
  case h_4 i j _ =>
    cases e
    obtain ⟨v, v', rfl, h1, h2⟩ := us2 r
    obtain rfl := (show v = V.int i from h1)
    obtain rfl := (show v' = V.int j from h2)
    exact call_min2 hc pins s σ H _ us Q I rv ⟨i, j, rfl, want_same h q rfl⟩
  all_goals first | contradiction | cases e
theorem max2_ok (g : Gx m X) (hc : X.calm = true) : CallR X (.builtin "max") (rC m .max2) := by
  intro pins s σ H xs us Q I rv ⟨al, st, ws, u, st', h, r, e, q⟩
  unfold bltU at e
  split at e
  case h_5 i j _ =>
    cases e
    obtain ⟨v, v', rfl, h1, h2⟩ := us2 r
    obtain rfl := (show v = V.int i from h1)
    obtain rfl := (show v' = V.int j from h2)
    exact call_max2 hc pins s σ H _ us Q I rv ⟨i, j, rfl, want_same h q rfl⟩
  all_goals first | contradiction | cases e
theorem int_ok (g : Gx m X) : CallR X (.type "int") (rC m .int) := by
  intro pins s σ H xs us Q I rv ⟨al, st, ws, u, st', h, r, e, q⟩
  have cases3 : (∃ x n, ws = [.str x] ∧ PySem.intText? x = some n ∧ x.length ≤ 640 ∧ u = .int n ∧ st' = st) ∨ (∃ i, ws = [.int i] ∧ u = .int i ∧ st' = st) ∨ (∃ k, ws = [.bl k] ∧ u = .int (if k then 1 else 0) ∧ st' = st) := by
    match ws, e with
    | [.str x], e =>
      left
      have e : (match PySem.intText? x with | some n => if x.length ≤ 640 then some (R.ok (.int n) st) else none | none => none) = some (R.ok u st') := e
      split at e
      · rename_i n hn
        split at e
        · rename_i hz
          cases e
          exact ⟨x, n, rfl, hn, hz, rfl, rfl⟩
        · cases e
      · cases e
    | [.int i], e => right; left; cases e; exact ⟨i, rfl, rfl, rfl⟩
    | [.bl k], e => right; right; cases e; exact ⟨k, rfl, rfl, rfl⟩
  rcases cases3 with ⟨x, n, rfl, hn, hz, rfl, rfl⟩ | ⟨i, rfl, rfl, rfl⟩ | ⟨k, rfl, rfl, rfl⟩
  · obtain ⟨v, rfl, h1⟩ := us1 r
    obtain rfl := (show v = V.str x from h1)
    exact call_int_str pins s σ H _ us Q I rv ⟨x, n, rfl, hn, hz, want_same h q rfl⟩
  · obtain ⟨v, rfl, h1⟩ := us1 r
    obtain rfl := (show v = V.int i from h1)
    exact call_int1 pins s σ H _ us Q I rv (.inl ⟨i, rfl, want_same h q rfl⟩)
  · obtain ⟨v, rfl, h1⟩ := us1 r
    obtain rfl := (show v = V.bl k from h1)
    exact call_int1 pins s σ H _ us Q I rv (.inr ⟨k, rfl, want_same h q rfl⟩)
theorem str_ok (g : Gx m X) : CallR X (.type "str") (rC m .str) := by
  intro pins s σ H xs us Q I rv ⟨al, st, ws, u, st', h, r, e, q⟩
  unfold bltU at e
  split at e
  case h_9 i _ =>
    split at e
    · rename_i hz
      cases e
      obtain ⟨v, rfl, h1⟩ := us1 r
      obtain rfl := (show v = V.int i from h1)
      exact call_str_int pins s σ H _ us Q I rv ⟨i, rfl, hz, want_same h q rfl⟩
    · cases e
  all_goals first | contradiction | cases e
theorem ints_rel {al : List Addr} {H : Hp} : ∀ {l : List U} {is : List Int} {vs : List V}, intsU l = some is → RelUs m.KK al H l vs → vs = is.map V.int
  | [], is, vs, e, r => by cases e; exact r
  | .int i :: l, is, vs, e, r => by
    rw [intsU] at e
    cases q : intsU l with
    | none => rw [q] at e; cases e
    | some js =>
      rw [q] at e
      cases e
      obtain ⟨v, t, rfl, h1, h2⟩ := r
      rw [ints_rel q h2, show v = V.int i from h1]
      rfl
  | .non :: _, _, _, e, _ => by cases e
  | .bl _ :: _, _, _, e, _ => by cases e
  | .str _ :: _, _, _, e, _ => by cases e
  | .tup _ :: _, _, _, e, _ => by cases e
  | .fl _ :: _, _, _, e, _ => by cases e
  | .ref _ :: _, _, _, e, _ => by cases e
  | .err _ :: _, _, _, e, _ => by cases e
theorem min_low : ∀ (a : Int) (r : List Int), (minI a r ∈ a :: r) ∧ ∀ y ∈ a :: r, minI a r ≤ y
  | a, [] => ⟨by simp [minI], fun y hy => by simp at hy; simp [minI, hy]⟩
  | a, b :: r => by
    obtain ⟨h1, h2⟩ := min_low (if b < a then b else a) r
    rw [minI]
    refine ⟨?_, fun y hy => ?_⟩
    · rw [List.mem_cons] at h1
      rcases h1 with h1 | h1
      · rw [h1]
        split <;> simp
      · simp [h1]
    · have h3 := h2 (if b < a then b else a) (by simp)
      rw [List.mem_cons, List.mem_cons] at hy
      rcases hy with rfl | rfl | hy
      · split at h3 <;> rename_i hz <;> simp only [hz, if_true, if_false] <;> omega
      · split at h3 <;> rename_i hz <;> simp only [hz, if_true, if_false] <;> omega
      · exact h2 y (by simp [hy])
theorem min1_ok (g : Gx m X) (hc : X.calm = true) : CallR X (.builtin "min") (rC m .min1) := by
  intro pins s σ H xs us Q I rv ⟨al, st, ws, u, st', h, r, e, q⟩
  match ws, e with
  | [.ref i], e =>
    have e : (match st[i]? with | some (.lst l) => (match intsU l with | some (a :: r) => some (R.ok (.int (minI a r)) st) | _ => none) | _ => none) = some (R.ok u st') := e
    split at e
    · rename_i l e0
      split at e
      · rename_i a rr e1
        cases e
        obtain ⟨v, rfl, h1⟩ := us1 r
        obtain ⟨p, vs, rfl, h2, h3, h4⟩ := lst_of h h1 e0
        have ev := ints_rel e1 h4
        subst ev
        refine cr_min hc pins s σ H _ us Q I rv ⟨p, a :: rr, rfl, SqL.of h3, by simp, fun mm k1 k2 => ?_⟩
        obtain ⟨l1, l2⟩ := min_low a rr
        have em : mm = minI a rr := Int.le_antisymm (k2 _ l1) (l2 _ k1)
        subst em
        exact want_same h q rfl
      · cases e
    · cases e
theorem bls_rel {al : List Addr} {H : Hp} : ∀ {l : List U} {is : List Bool} {vs : List V}, blsU l = some is → RelUs m.KK al H l vs → vs = is.map V.bl
  | [], is, vs, e, r => by cases e; exact r
  | .bl i :: l, is, vs, e, r => by
    rw [blsU] at e
    cases q : blsU l with
    | none => rw [q] at e; cases e
    | some js =>
      rw [q] at e
      cases e
      obtain ⟨v, t, rfl, h1, h2⟩ := r
      rw [bls_rel q h2, show v = V.bl i from h1]
      rfl
  | .non :: _, _, _, e, _ => by cases e
  | .int _ :: _, _, _, e, _ => by cases e
  | .str _ :: _, _, _, e, _ => by cases e
  | .tup _ :: _, _, _, e, _ => by cases e
  | .fl _ :: _, _, _, e, _ => by cases e
  | .ref _ :: _, _, _, e, _ => by cases e
  | .err _ :: _, _, _, e, _ => by cases e
theorem sum_ok (g : Gx m X) (hc : X.calm = true) : CallR X (.builtin "sum") (rC m .sum) := by
  intro pins s σ H xs us Q I rv ⟨al, st, ws, u, st', h, r, e, q⟩
  unfold bltU at e
  split at e
  case h_10 i _ =>
    split at e
    · rename_i l e0
      split at e
      · rename_i is e1
        cases e
        obtain ⟨v, rfl, h1⟩ := us1 r
        obtain ⟨a, vs, rfl, h1, h2, h3⟩ := lst_of h h1 e0
        obtain rfl := ints_rel e1 h3
        exact cr_sum hc pins s σ H _ us Q I rv ⟨a, is, rfl, SqL.of h2, want_same h q rfl⟩
      · cases e
    · cases e
  all_goals first | contradiction | cases e
theorem any_ok (g : Gx m X) (hc : X.calm = true) : CallR X (.builtin "any") (rC m .any) := by
  intro pins s σ H xs us Q I rv ⟨al, st, ws, u, st', h, r, e, q⟩
  unfold bltU at e
  split at e
  case h_11 i _ =>
    split at e
    · rename_i l e0
      split at e
      · rename_i is e1
        cases e
        obtain ⟨v, rfl, h1⟩ := us1 r
        obtain ⟨a, vs, rfl, h1, h2, h3⟩ := lst_of h h1 e0
        obtain rfl := bls_rel e1 h3
        exact cr_any hc pins s σ H _ us Q I rv ⟨a, is, rfl, SqL.of h2, want_same h q rfl⟩
      · cases e
    · cases e
  all_goals first | contradiction | cases e
theorem all_ok (g : Gx m X) (hc : X.calm = true) : CallR X (.builtin "all") (rC m .all) := by
  intro pins s σ H xs us Q I rv ⟨al, st, ws, u, st', h, r, e, q⟩
  unfold bltU at e
  split at e
  case h_12 i _ =>
    split at e
    · rename_i l e0
      split at e
      · rename_i is e1
        cases e
        obtain ⟨v, rfl, h1⟩ := us1 r
        obtain ⟨a, vs, rfl, h1, h2, h3⟩ := lst_of h h1 e0
        obtain rfl := bls_rel e1 h3
        exact cr_all hc pins s σ H _ us Q I rv ⟨a, is, rfl, SqL.of h2, want_same h q rfl⟩
      · cases e
    · cases e
  all_goals first | contradiction | cases e
theorem sorted_ok (g : Gx m X) : CallR X (.builtin "sorted") (rC m .sorted) := by
  intro pins s σ H xs us Q I rv ⟨al, st, ws, u, st', h, r, e, q⟩
  unfold bltU at e
  split at e
  case h_13 i _ =>
    split at e
    · rename_i l e0
      split at e
      · rename_i l' e1
        cases e
        obtain ⟨v, rfl, h1⟩ := us1 r
        obtain ⟨a, vs, rfl, h1, h2, h3⟩ := lst_of h h1 e0
        obtain ⟨u', rfl, ru⟩ := vals1 rv
        obtain rfl := (show u' = .ref a from ru)
        unfold sortU at e1
        split at e1
        · rename_i ds e2
          split at e1
          · rename_i hc
            cases e1
            simp only [Bool.and_eq_true, decide_eq_true_eq, List.all_eq_true] at hc
            obtain ⟨⟨⟨c1, c2⟩, c3⟩, c4⟩ := hc
            have ed := dats_eq e2
            obtain ⟨its, rits, hl, hz⟩ := I.list (SqL.of (K := X.K) h2)
            have hlen : ds.length = l.length := by rw [ed, List.length_map]
            refine PySem.W.sorted_data (enc := datD) (R := fun (w : Value) (u : U) => ∃ v, RelV v w ∧ m.RU al H u v) hl.isList (each_of h3 rits) (each_reads g.hK I h3 rits e2) (ed ▸ alike_of c1) (ed ▸ sortable_of c2) (by rw [← lim_eq, ← hlen]; exact c3) (fun b hb => ?_) fun out ho he => ?_
            · have := c4 (datD b) (by rw [ed]; exact List.mem_map_of_mem hb)
              have := g.un
              omega
            · obtain ⟨vs', r', rv'⟩ := of_each he
              obtain ⟨c, hc⟩ := PyProof.Rows.sortedAll_at s.heap its out.toArray
              have hsz : s.heap.objs.size ≤ s.heap.objs.size + 1 := Nat.le_succ _
              have en : isort (fun a b => PySem.W.dataLe false datD a b) l = l.mergeSort (PySem.W.dataLe false datD) := isort_eq (PySem.W.sortLe_total _ _ _) l
              refine ⟨.ref (s.heap.objs.size + 1), _, I.laid (t' := s.toks) (o := .lst vs') (fun b o q => PyProof.Rows.sortedAll_old q) hsz ?_, rfl, ?_⟩
              · refine ⟨?_, out, c, rv', hc⟩
                have h1 := r'.len
                rw [← h1, List.length_mergeSort, ← hlen, ← lim_eq]
                exact c3
              · rw [en] at q
                exact want_lst h q r' (I.hok.fresh hsz)
          · cases e1
        · cases e1
      · cases e
    · cases e
  all_goals first | contradiction | cases e
theorem tuple_ok (g : Gx m X) : CallR X (.type "tuple") (rC m .tuple) := by
  intro pins s σ H xs us Q I rv ⟨al, st, ws, u, st', h, r, e, q⟩
  unfold bltU at e
  split at e
  case h_18 l _ =>
    cases e
    obtain ⟨v, rfl, h1⟩ := us1 r
    obtain ⟨a, vs, rfl, h2, h3⟩ := h1
    exact call_tuple_of pins s σ H _ us Q I rv ⟨a, vs, rfl, .inr ⟨SqT.of h2, want_same h q ⟨a, vs, rfl, h2, h3⟩⟩⟩
  case h_19 l _ =>
    cases e
    obtain ⟨v, rfl, h1⟩ := us1 r
    obtain ⟨a, vs, rfl, h2, h3⟩ := h1
    exact call_tuple_of pins s σ H _ us Q I rv ⟨a, vs, rfl, .inl ⟨g.hK ▸ h2.sq, fun p hp => want_tup h q h3 hp⟩⟩
  case h_20 i _ =>
    split at e
    · rename_i l e0
      cases e
      obtain ⟨v, rfl, h1⟩ := us1 r
      obtain ⟨a, vs, rfl, h1, h2, h3⟩ := lst_of h h1 e0
      exact call_tuple_of pins s σ H _ us Q I rv ⟨a, vs, rfl, .inl ⟨SqL.of h2, fun p hp => want_tup h q h3 hp⟩⟩
    · cases e
  all_goals first | contradiction | cases e
end
end Cw

set_option Elab.async false
set_option linter.all false
set_option maxRecDepth 100000
set_option maxHeartbeats 1000000
namespace Cw
open PySem PySem.Spec PyProof.Rows L2
section
variable {m : Mm} {X : Cx}
theorem keysK_rel {al : List Addr} {H : Hp} {kvs : List (Key × U)} {ws : List (Key × V)} (r : Paired (PK m al H) kvs ws) : RelUs m.KK al H (kvs.map fun p => uKey p.1) (ws.map fun kv => kV kv.1) := by
  induction r with
  | nil => exact rfl
  | @cons p q kvs ws h t ih =>
    refine ⟨_, _, rfl, ?_, ih⟩
    show RelU m.KK al H (uKey p.1) (kV q.1)
    rw [← h.1]
    exact uKey_rel p.1
theorem keysN_rel {al : List Addr} {H : Hp} {kvs : List (NestedKey × U)} {ws : List (NestedKey × Addr × Value)} (r : Paired (RelN m.KK al H) kvs ws) : RelUs m.KK al H (kvs.map fun p => ukey p.1) (ws.map fun kv => V.ref kv.2.1) := by
  induction r with
  | nil => exact rfl
  | @cons p q kvs ws h t ih => exact ⟨_, _, rfl, h.2.2.1, ih⟩
theorem list_dn (g : Gx m X) (hc : X.calm = true) {pins : List (Addr × Obj)} {s : Shared} {σ : L2.St} {H : Hp} {al : List Addr} {st : Sto} {a : Addr} {kvs : List (NestedKey × U)} {ws : List (NestedKey × Addr × Value)} {Q : VK} (I : Inv X pins σ H s) (h : m.RH al H st) (e : H a = some (.ext (DX m.P m.w a ws)))
    (r : Paired (RelN m.KK al H) kvs ws) (q : Want m al H (.ref st.length) (st ++ [.lst (kvs.map fun p => ukey p.1)]) Q) : wpAny (model X.prog X.w) X.A (call (.type "list") [.ref a]) (EP X pins σ Q) X.xe s := by
  obtain ⟨⟨hs, hz, o, es, ep, ho, hx, hdt, he, hn⟩, _, _⟩ := (show ObjOk X.prog X.w H s.heap a (.ext (DX m.P m.w a ws)) from I.hok a _ e)
  have l1 : es.size = ws.length := size_of_entries he
  refine PySem.W.kdl_call (kdl_raw hs hx hdt) (I.ok.hd hc) ho (by omega) fun h' tk acc' c' kp e it => ?_
  have ea : acc'.toList = ws.map fun x => Value.ref x.2.1 := by
    have hl : acc'.toList.length = ws.length := by rw [Array.length_toList, it.1]; exact l1
    apply List.ext_getElem?
    intro j
    rw [List.getElem?_map]
    cases hj : acc'.toList[j]? with
    | none =>
      have h1 := List.getElem?_eq_none_iff.mp hj
      rw [List.getElem?_eq_none (by omega)]
      rfl
    | some v =>
      obtain ⟨en, hen, hv⟩ := it.2 j v (by rw [← Array.getElem?_toList]; exact hj)
      have qe := entry_at he j
      rw [hen] at qe
      cases hb : ws[j]? with
      | none =>
        rw [hb] at qe
        exact nomatch (show some en = none from qe)
      | some b =>
        rw [hb] at qe
        have e2 : en = entryOfKey (nestedKind m.P m.w) b := Option.some.inj qe
        rw [hv, e2]
        rfl
  have eb : acc'.toList = (ws.map fun x => x.2.1).map Value.ref := by rw [ea, List.map_map]; rfl
  have rv : Vals ((ws.map fun x => x.2.1).map V.ref) acc'.toList := by rw [eb]; exact vals_refs _
  have hz2 : ((ws.map fun x => x.2.1).map V.ref).length ≤ sizeLine := by rw [List.length_map, List.length_map]; omega
  refine ⟨.ref s.heap.objs.size, _, I.laid (t' := tk) (o := .lst ((ws.map fun x => x.2.1).map V.ref)) kp (Nat.le_refl _) ?_, rfl, want_lst h q ?_ (I.hok.fresh (Nat.le_refl _))⟩
  · exact ⟨hz2, acc'.toList, c', rv, by rw [Array.toArray_toList]; exact e⟩
  · rw [List.map_map]
    exact keysN_rel r
theorem list_ok (g : Gx m X) (hc : X.calm = true) : CallR X (.type "list") (rC m .list) := by
  intro pins s σ H xs us Q I rv ⟨al, st, ws, u, st', h, r, e, q⟩
  unfold bltU at e
  split at e
  case h_15 i _ =>
    split at e
    · rename_i l e0
      cases e
      obtain ⟨v, rfl, h1⟩ := us1 r
      obtain ⟨a, vs, rfl, h1, h2, h3⟩ := lst_of h h1 e0
      exact call_list_of pins s σ H _ us Q I rv ⟨a, vs, rfl, .inl (SqL.of h2), fun p hp => want_lst h q h3 hp⟩
    · split at e
      · rename_i l e1
        cases e
        unfold keysU at e1
        split at e1
        · rename_i kvs e0
          cases e1
          obtain ⟨v, rfl, h1⟩ := us1 r
          obtain ⟨a, rfl, h1, ws, h2, h3⟩ := h.ref h1 e0
          exact call_list_dK hc pins s σ H _ us Q I rv ⟨a, ws, rfl, h2, fun p hp => want_lst h q (keysK_rel h3) hp⟩
        · rename_i kvs e0
          cases e1
          obtain ⟨v, rfl, h1⟩ := us1 r
          obtain ⟨a, rfl, h1, ws, h2, h3⟩ := h.ref h1 e0
          obtain ⟨u', rfl, ru⟩ := vals1 rv
          obtain rfl := (show u' = .ref a from ru)
          exact list_dn g hc I h h2 h3 q
        · cases e1
      · cases e
  case h_16 l _ =>
    cases e
    obtain ⟨v, rfl, h1⟩ := us1 r
    obtain ⟨a, vs, rfl, h2, h3⟩ := h1
    exact call_list_of pins s σ H _ us Q I rv ⟨a, vs, rfl, .inl (g.hK ▸ h2.sq), fun p hp => want_lst h q h3 hp⟩
  case h_17 l _ =>
    cases e
    obtain ⟨v, rfl, h1⟩ := us1 r
    obtain ⟨a, vs, rfl, h2, h3⟩ := h1
    exact call_list_of pins s σ H _ us Q I rv ⟨a, vs, rfl, .inr (SqT.of h2), fun p hp => want_lst h q h3 hp⟩
  all_goals first | contradiction | cases e

/-! ### methods -/
def rM (m : Mm) (t : Mth) : V → List V → Hp → VK → Prop := fun x xs H Q => ∃ al st o us u st', m.RH al H st ∧ m.RU al H o x ∧ m.RUs al H us xs ∧ mthU t o us st = some (.ok u st') ∧ Want m al H u st' Q
theorem want_set {al : List Addr} {H : Hp} {st : Sto} {n : Nat} {a : Addr} {us : List U} {vs : List V} {u : U} {v : V} {Q : VK} (h : m.RH al H st) (ha : al[n]? = some a) (q : Want m al H u (st.set n (.lst us)) Q) (r : RelUs m.KK al H us vs) (ru : m.RU al H u v) : Q v (upd H a (.lst vs)) := by
  have x : Ext al H al (upd H a (.lst vs)) := by
    obtain ⟨o, _, r0⟩ := h.some_of ha
    exact ext_upd ha r0.mut
  obtain ⟨h', _⟩ := h.write (o' := .lst us) ha (⟨vs, upd_same, RelUs.mono x us r⟩ : RelO m.P m.w m.KK m.cls al (upd H a (.lst vs)) a (.lst us))
  exact q al _ v x h' (RelU.mono x u ru)
/-- the object of a list's method -/
theorem mth_lst {st st' : Sto} {t : Mth} {o u : U} {us : List U} (e : mthU t o us st = some (.ok u st')) : ∃ n l, o = .ref n ∧ st[n]? = some (.lst l) := by
  unfold mthU at e
  split at e
  · rename_i n
    split at e
    · rename_i l e0
      exact ⟨n, l, rfl, e0⟩
    · cases e
  · cases e
theorem append_ok (g : Gx m X) : MtR X "list.append" (rM m .append) := by
  intro pins s σ H x xs v us Q I rx rv ⟨al, st, o, ws, u, st', h, ro, r, e, q⟩
  obtain ⟨n, l, rfl, e0⟩ := mth_lst e
  obtain ⟨a, vs, rfl, h1, h2, h3⟩ := lst_of h ro e0
  unfold mthU at e
  simp only [e0] at e
  split at e
  case h_1 y _ =>
    split at e
    · rename_i hz
      cases e
      obtain ⟨y', rfl, hy⟩ := us1 r
      exact mt_append pins s σ H _ _ v us Q I rx rv ⟨a, vs, y', rfl, rfl, h2, by rw [← lim_eq, ← h3.len]; exact hz, want_set h h1 q (h3.append (.cons hy rfl)) rfl⟩
    · cases e
  all_goals first | contradiction | cases e
theorem extend_ok (g : Gx m X) : MtR X "list.extend" (rM m .extend) := by
  intro pins s σ H x xs v us Q I rx rv ⟨al, st, o, ws, u, st', h, ro, r, e, q⟩
  obtain ⟨n, l, rfl, e0⟩ := mth_lst e
  obtain ⟨a, vs, rfl, h1, h2, h3⟩ := lst_of h ro e0
  unfold mthU at e
  simp only [e0] at e
  split at e
  case h_2 j _ =>
    split at e
    · rename_i l' e1
      split at e
      · rename_i hz
        cases e
        obtain ⟨y', rfl, hy⟩ := us1 r
        obtain ⟨b, ys, rfl, h4, h5, h6⟩ := lst_of h hy e1
        exact mt_extend pins s σ H _ _ v us Q I rx rv ⟨a, b, vs, ys, rfl, rfl, h2, h5, by rw [← lim_eq, ← h3.len, ← h6.len]; exact hz, want_set h h1 q (h3.append h6) rfl⟩
      · cases e
    · cases e
  all_goals first | contradiction | cases e
theorem pop_ok (g : Gx m X) : MtR X "list.pop" (rM m .pop) := by
  intro pins s σ H x xs v us Q I rx rv ⟨al, st, o, ws, u, st', h, ro, r, e, q⟩
  obtain ⟨n, l, rfl, e0⟩ := mth_lst e
  obtain ⟨a, vs, rfl, h1, h2, h3⟩ := lst_of h ro e0
  unfold mthU at e
  simp only [e0] at e
  split at e
  case h_3 _ =>
    split at e
    · rename_i y e1
      cases e
      obtain ⟨y', e2, hy⟩ := h3.get e1
      obtain rfl := (show xs = [] from r)
      exact mt_pop pins s σ H _ _ v us Q I rx rv ⟨a, vs, y', rfl, rfl, h2, by rw [← h3.len]; exact e2, want_set h h1 q h3.dropLast hy⟩
    · cases e
  all_goals first | contradiction | cases e
theorem popAt_ok (g : Gx m X) : MtR X "list.pop" (rM m .popAt) := by
  intro pins s σ H x xs v us Q I rx rv ⟨al, st, o, ws, u, st', h, ro, r, e, q⟩
  obtain ⟨n, l, rfl, e0⟩ := mth_lst e
  obtain ⟨a, vs, rfl, h1, h2, h3⟩ := lst_of h ro e0
  unfold mthU at e
  simp only [e0] at e
  split at e
  case h_4 i _ =>
    split at e
    · rename_i hb
      split at e
      · rename_i k e1
        split at e
        · rename_i y e2
          cases e
          obtain ⟨y', e3, hy⟩ := h3.get e2
          obtain ⟨z, rfl, hz⟩ := us1 r
          obtain rfl := (show z = V.int i from hz)
          exact mt_popAt pins s σ H _ _ v us Q I rx rv ⟨a, vs, i, k, y', rfl, rfl, h2, hb.1, hb.2, by rw [← h3.len]; exact (ixN_seq e1).1, e3, want_set h h1 q (h3.eraseIdx k) hy⟩
        · cases e
      · cases e
    · cases e
  all_goals first | contradiction | cases e
theorem reverse_ok (g : Gx m X) : MtR X "list.reverse" (rM m .reverse) := by
  intro pins s σ H x xs v us Q I rx rv ⟨al, st, o, ws, u, st', h, ro, r, e, q⟩
  obtain ⟨n, l, rfl, e0⟩ := mth_lst e
  obtain ⟨a, vs, rfl, h1, h2, h3⟩ := lst_of h ro e0
  unfold mthU at e
  simp only [e0] at e
  split at e
  case h_5 _ =>
    cases e
    obtain rfl := (show xs = [] from r)
    exact mt_reverse pins s σ H _ _ v us Q I rx rv ⟨a, vs, rfl, rfl, h2, want_set h h1 q h3.reverse rfl⟩
  all_goals first | contradiction | cases e
theorem clear_ok (g : Gx m X) : MtR X "list.clear" (rM m .clear) := by
  intro pins s σ H x xs v us Q I rx rv ⟨al, st, o, ws, u, st', h, ro, r, e, q⟩
  obtain ⟨n, l, rfl, e0⟩ := mth_lst e
  obtain ⟨a, vs, rfl, h1, h2, h3⟩ := lst_of h ro e0
  unfold mthU at e
  simp only [e0] at e
  split at e
  case h_6 _ =>
    cases e
    obtain rfl := (show xs = [] from r)
    exact mt_clear pins s σ H _ _ v us Q I rx rv ⟨a, vs, rfl, rfl, h2, want_set h h1 q rfl rfl⟩
  all_goals first | contradiction | cases e
theorem mth_ty {al : List Addr} {H : Hp} {st st' : Sto} {t : Mth} {o u : U} {us : List U} {x : V} (h : m.RH al H st) (ro : m.RU al H o x) (e : mthU t o us st = some (.ok u st')) : tyV X.K "list" x H := by
  obtain ⟨n, l, rfl, e0⟩ := mth_lst e
  obtain ⟨a, vs, rfl, h1, h2, h3⟩ := lst_of h ro e0
  exact .inl ⟨rfl, _, SqL.of h2⟩

/-! ### o[i] = v -/
def rSubU (m : Mm) : V → V → V → Hp → (Hp → Prop) → Prop := fun o i v H Q => ∃ al st uo ui uv st', m.RH al H st ∧ m.RU al H uo o ∧ m.RU al H ui i ∧ m.RU al H uv v ∧ subU uo ui uv st = some st' ∧ ∀ H', Ext al H al H' → m.RH al H' st' → Q H'
theorem kput_K {al : List Addr} {H : Hp} {kvs : List (Key × U)} {ws : List (Key × V)} (r : Paired (PK m al H) kvs ws) (k : Key) {u : U} {v : V} (ru : RelU m.KK al H u v) : Paired (PK m al H) (kput kvs k u) (putK ws k v) := by
  unfold kput putK
  have e : (ws.any fun kv => decide (kv.1 = k)) = (kget kvs k).isSome := by
    rw [valV_any]
    rcases kget_K r k with ⟨z1, z2⟩ | ⟨_, _, z1, z2, _⟩ <;> (rw [z1, z2]; rfl)
  rw [e]
  split
  · clear e
    induction r with
    | nil => exact .nil
    | @cons p q kvs ws h t ih =>
      obtain ⟨p1, p2⟩ := p
      obtain ⟨q1, q2⟩ := q
      obtain ⟨e1, e2⟩ := h
      simp only at e1 e2
      subst e1
      rename_i hk
      refine .cons ?_ ?_
      · by_cases z : p1 = k
        · simp only [z, if_true]; exact ⟨rfl, ru⟩
        · simp only [z, if_false]; exact ⟨rfl, e2⟩
      · clear hk ih
        induction t with
        | nil => exact .nil
        | @cons p q kvs ws h t ih =>
          obtain ⟨p1, p2⟩ := p
          obtain ⟨q1, q2⟩ := q
          obtain ⟨e1, e2⟩ := h
          simp only at e1 e2
          subst e1
          refine .cons ?_ ih
          by_cases z : p1 = k
          · simp only [z, if_true]; exact ⟨rfl, ru⟩
          · simp only [z, if_false]; exact ⟨rfl, e2⟩
  · clear e
    induction r with
    | nil => exact .cons ⟨rfl, ru⟩ .nil
    | @cons p q kvs ws h t ih => 
      refine .cons h ?_
      rename_i hk
      clear hk ih h
      induction t with
      | nil => exact .cons ⟨rfl, ru⟩ .nil
      | cons h t ih => exact .cons h ih
theorem map_N {al : List Addr} {H : Hp} {kvs : List (NestedKey × U)} {ws : List (NestedKey × Addr × Value)} (r : Paired (RelN m.KK al H) kvs ws) (k : NestedKey) {u : U} {v : V} {val : Value} (rv : RelV v val) (ru : RelU m.KK al H u v) :
    Paired (RelN m.KK al H) (kvs.map fun p => if p.1 = k then (p.1, u) else p) (ws.map (putAt k val)) := by
  induction r with
  | nil => exact .nil
  | @cons p q kvs ws h t ih =>
    obtain ⟨p1, p2⟩ := p
    obtain ⟨q1, q2, q3⟩ := q
    obtain ⟨e1, e2, e3, e4⟩ := h
    simp only at e1 e2 e3 e4
    subst e1
    refine .cons ?_ ih
    unfold putAt
    by_cases z : p1 = k
    · simp only [z, if_true]; exact ⟨rfl, z ▸ e2, z ▸ e3, v, rv, ru⟩
    · simp only [z, if_false]; exact ⟨rfl, e2, e3, e4⟩
theorem snoc_N {al : List Addr} {H : Hp} {kvs : List (NestedKey × U)} {ws : List (NestedKey × Addr × Value)} (r : Paired (RelN m.KK al H) kvs ws) {p : NestedKey × U} {q : NestedKey × Addr × Value} (h : RelN m.KK al H p q) : Paired (RelN m.KK al H) (kvs ++ [p]) (ws ++ [q]) := by
  induction r with
  | nil => exact .cons h .nil
  | cons h t ih => exact .cons h ih
theorem set_ok (g : Gx m X) : PSet X (rSubU m) := by
  intro pins s σ H o i v ov iv u Q I ro ri rv ⟨al, st, uo, ui, uv, st', h, r1, r2, r3, e, q⟩
  have hun := g.un
  unfold subU at e
  split at e
  · rename_i n
    split at e
    · rename_i l e0
      split at e
      · rename_i k
        split at e
        · rename_i j e1
          cases e
          obtain ⟨a, vs, rfl, h1, h2, h3⟩ := lst_of h r1 e0
          have x : Ext al H al (upd H a (.lst (vs.set j v))) := ext_upd h1 (by rw [h2]; exact True.intro)
          refine set_list pins s σ H _ i v ov iv u Q I ro ri rv ⟨a, vs, k, j, rfl, r2, h2, by rw [← h3.len]; exact e1, q _ x (h.write (o' := .lst (l.set j uv)) h1 ⟨_, upd_same, RelUs.mono x _ (h3.set j r3)⟩).1⟩
        · cases e
      · cases e
    · rename_i kvs e0
      split at e
      · rename_i k e1
        split at e
        · rename_i hz
          cases e
          obtain ⟨a, rfl, h1, ws, h2, h3⟩ := h.ref r1 e0
          obtain rfl := (show ov = .ref a from ro)
          have x : Ext al H al (upd H a (.dK (putK ws k v))) := ext_upd h1 (by rw [h2]; exact True.intro)
          refine d_setItem (by omega) I (.inl ⟨ws, k, h2, keyU_kV e1 r2, ?_, rfl⟩) ri rv fun s' I' => ⟨_, I', q _ x ?_⟩
          · rw [← Paired.length h3, ← lim_eq]; exact hz
          · refine (h.write (o' := .dk (kput kvs k uv)) h1 ⟨_, upd_same, ?_⟩).1
            exact L2.Paired.mapP (kput_K h3 k r3) fun p q z => ⟨z.1, RelU.mono x _ z.2⟩
        · cases e
      · cases e
    · rename_i kvs e0
      split at e
      · rename_i k e1
        split at e
        · rename_i hz
          cases e
          obtain ⟨a, rfl, h1, ws, h2, h3⟩ := h.ref r1 e0
          obtain rfl := (show ov = .ref a from ro)
          obtain ⟨k1, k2, l, k3⟩ := tkey_of e1
          have r2' := r2
          rw [← k1] at r2'
          obtain ⟨b, rfl⟩ : ∃ b, i = .ref b := by
            rw [k3] at r2
            obtain ⟨b, _, e, _⟩ := r2
            exact ⟨b, e⟩
          obtain rfl := (show iv = .ref b from ri)
          obtain ⟨d1, d2, d3⟩ := dn_of g I h2 h3
          refine wpAny_setItem_heap (hsz := d2) (nk_room g) (nk_is I k2 r2') d3 fun h' dd' hs => ?_
          have x : Ext al H al (upd H a (.ext (DX m.P m.w a (storedH ws k b u)))) := ext_upd h1 (by rw [h2]; exact True.intro)
          obtain ⟨o', es, ep, ho', hx', hd', he', _, hn'⟩ := dd'
          have hl : (storedH ws k b u).length ≤ sizeLine := by
            have := Paired.length h3
            unfold storedH
            split
            · rw [List.length_map]; exact d2
            · rw [List.length_append, ← this]
              have := lim_eq
              simp
              omega
          rw [g.hP, g.hw] at he'
          have hφ : DX m.P m.w a (storedH ws k b u) h' := ⟨d1, hl, o', es, ep, ho', hx', hd', he', hn'⟩
          refine ⟨upd H a (.ext (DX m.P m.w a (storedH ws k b u))), d_write I (by rw [h2]; exact True.intro) hs ⟨_, ho'⟩ ⟨hφ, ⟨_, ho'⟩, fun g1 g2 p k' => ?_⟩, q _ x ?_⟩
          · obtain ⟨p1, p2, o, es, ep, p3, p4⟩ := p
            exact ⟨p1, p2, o, es, ep, k' _ p3, p4⟩
          · refine (h.write (o' := .dn (kput kvs k uv)) h1 ⟨_, upd_same, ?_⟩).1
            refine L2.Paired.mapP (F := RelN m.KK al H) ?_ fun p q ⟨z1, z2, z3, v', z4, z5⟩ => ⟨z1, z2, RelU.mono x _ z3, v', z4, RelU.mono x _ z5⟩
            unfold kput storedH
            have e3 : (atKey ws k).isSome = (kget kvs k).isSome := by
              rcases kget_N h3 k with ⟨z1, z2⟩ | ⟨_, _, z1, z2, _⟩ <;> (rw [z1, z2]; rfl)
            rw [e3]
            split
            · exact map_N h3 k rv r3
            · exact snoc_N h3 ⟨rfl, k2, r2', v, rv, r3⟩
        · cases e
      · cases e
    · cases e
  · cases e
end
end Cw

set_option Elab.async false
set_option linter.all false
set_option maxRecDepth 100000
set_option maxHeartbeats 1000000
/-! a term of the language is the model's own expression -/
namespace Cw
open PySem PySem.Spec PyProof.Rows L2

structure Ctx where
  N : List Str
  sc : Scope
  top : Bool
  ds : List Def
  consts : List (Str × U)
  excs : List Str
  nc : Bool := false
  hot : Bool := false
  tr : Bool := false
def isStar : Expr → Bool
  | .Starred .. => true
  | _ => false
def isComp : Expr → Bool
  | .ListComp .. => true
  | .SetComp .. => true
  | .DictComp .. => true
  | _ => false
def isSet : Expr → Bool
  | .Set .. => true
  | _ => false
def isSlice : Expr → Bool
  | .Slice .. => true
  | _ => false
def isSuper : Expr → Bool
  | .Call (.Name ..) [] [] _ => true
  | _ => false
/-- an expression whose truth is asked of its value -/
def plainT : Expr → Bool
  | .UnaryOp .Not _ _ => false
  | .BoolOp .. => false
  | .IfExp .. => false
  | .Compare .. => false
  | _ => true
def visB (sc : Scope) (n : Str) : Bool := match sc.names.lookup n with
  | some .local => true
  | some .cell => true
  | some .free => true
  | _ => false
def glB (sc : Scope) (n : Str) : Bool := (match sc.names.lookup n with
  | some .globalImplicit => true
  | _ => false) && !(n == ("__debug__" : Str))
def locB (sc : Scope) (n : Str) : Bool := match sc.names.lookup n with
  | some .local => true
  | _ => false
def celB (sc : Scope) (n : Str) : Bool := match sc.names.lookup n with
  | some .cell => true
  | _ => false
def varB (x : Ctx) (i : Nat) (n : Str) : Bool := decide (x.N[i]? = some n) && visB x.sc n && !(n == ("__debug__" : Str)) && !(n == ("__classdict__" : Str))
/-- a name that is stored -/
def stoB (x : Ctx) (i : Nat) (n : Str) : Bool := decide (x.N[i]? = some n) && (locB x.sc n || (x.top && celB x.sc n))
def chT (x : Ctx) (g : Tgt) (e : Expr) : Bool := match g, e with
  | .var i, .Name n _ => stoB x i n
  | .tup is, .Tuple es _ _ => !x.hot && decide (is.length = es.length) && (is.zip es).all fun p => match p.2 with | .Name n _ => stoB x p.1 n | _ => false
  | _, _ => false
def opB : Bop → Operator → Bool
  | .add, .Add => true
  | .sub, .Sub => true
  | .mul, .Mult => true
  | .fdiv, .FloorDiv => true
  | .mod, .Mod => true
  | .pow, .Pow => true
  | _, _ => false
def copB : Cop → CmpOp → Bool
  | .eq, .Eq => true
  | .ne, .NotEq => true
  | .lt, .Lt => true
  | .le, .LtE => true
  | .gt, .Gt => true
  | .ge, .GtE => true
  | .isin, .In => true
  | .notin, .NotIn => true
  | _, _ => false
def bltN : Blt → Option (Str × Value)
  | .len => some ("len", .builtin "len")
  | .abs => some ("abs", .builtin "abs")
  | .min2 => some ("min", .builtin "min")
  | .max2 => some ("max", .builtin "max")
  | .min1 => some ("min", .builtin "min")
  | .int => some ("int", .type "int")
  | .str => some ("str", .type "str")
  | .sum => some ("sum", .builtin "sum")
  | .any => some ("any", .builtin "any")
  | .all => some ("all", .builtin "all")
  | .sorted => some ("sorted", .builtin "sorted")
  | .list => some ("list", .type "list")
  | .tuple => some ("tuple", .type "tuple")
  | _ => none
def mthN : Mth → Option (Str × Str)
  | .append => some ("append", "list")
  | .extend => some ("extend", "list")
  | .pop => some ("pop", "list")
  | .popAt => some ("pop", "list")
  | .reverse => some ("reverse", "list")
  | .clear => some ("clear", "list")
  | _ => none
def tyN : Ty → Option Str
  | .int => some "int"
  | .bool => some "bool"
  | .str => some "str"
  | .list => some "list"
  | .tuple => some "tuple"
  | .exc _ => none
def lenEs : CEs → Nat
  | .nil => 0
  | .cons _ es => lenEs es + 1
def ownN (x : Ctx) (g : Tgt) : List (Str × Nat) := (ownT g).map fun i => (x.N.getD i "", i)
def inner (x : Ctx) (scope : Scope) : Ctx := { x with sc := relS scope x.sc, top := false }
def txN : Tx → Str
  | .split => "split"
  | .join => "join"
  | .part => "partition"
def chKs : List Str → List (Option Expr) → Bool
  | [], [] => true
  | k :: ks, some (.Constant (.str k') _ _) :: r => decide (k = k') && chKs ks r
  | _, _ => false
mutual
def chE (x : Ctx) : CE → Expr → Bool
  | .var i, e => match e with
    | .Name n _ => varB x i n
    | _ => false
  | .cst u, e => match u, e with
    | .int i, .Constant (.int j) _ _ => decide (i = j)
    | .bl a, .Constant (.bool b) _ _ => decide (a = b)
    | .non, .Constant .none _ _ => true
    | .str a, .Constant (.str b) _ _ => decide (a = b)
    | _, _ => false
  | .glb n u, e => match e with
    | .Name n' _ => decide (n = n') && glB x.sc n && (match u, x.consts.lookup n with | .int a, some (.int b) => decide (a = b) | .str a, some (.str b) => decide (a = b) | _, _ => false)
    | _ => false
  | .tup es, e => match e with
    | .Tuple l _ _ => chEs x es l
    | _ => false
  | .lst es, e => match e with
    | .List l _ => chEs x es l
    | _ => false
  | .dk0, e => match e with
    | .Dict [] [] _ => true
    | _ => false
  | .dn0, e => match e with
    | .Dict [] [] _ => true
    | _ => false
  | .dsp ks es, e => match e with
    | .Dict keys vals _ => chKs ks keys && !ks.isEmpty && decide (keys.length = vals.length) && decide (ks.length ≤ 15) && chEs x es vals
    | _ => false
  | .bin op a b, e => match e with
    | .BinOp l o r _ => opB op o && chE x a l && chE x b r
    | _ => false
  | .neg a, e => match e with
    | .UnaryOp .USub l _ => chE x a l
    | _ => false
  | .cmp op a b, e => match e with
    | .Compare l [o] [r] _ => copB op o && !isSet r && chE x a l && chE x b r
    | _ => false
  | .chain o1 o2 a b c, e => match e with
    | .Compare l [p1, p2] [r1, r2] _ => copB o1 p1 && copB o2 p2 && !isSet r2 && chE x a l && chE x b r1 && chE x c r2
    | _ => false
  | .isN a, e => match e with
    | .Compare l [.Is] [.Constant .none _ _] _ => chE x a l
    | _ => false
  | .noN a, e => match e with
    | .Compare l [.IsNot] [.Constant .none _ _] _ => chE x a l
    | _ => false
  | .nt a, e => match e with
    | .UnaryOp .Not l _ => chE x a l
    | _ => false
  | .and_ a b, e => match e with
    | .BoolOp .And (l :: r :: rest) pos => chE x a l && (match rest with | [] => chE x b r | _ => chE x b (.BoolOp .And (r :: rest) pos))
    | _ => false
  | .or_ a b, e => match e with
    | .BoolOp .Or (l :: r :: rest) pos => chE x a l && (match rest with | [] => chE x b r | _ => chE x b (.BoolOp .Or (r :: rest) pos))
    | _ => false
  | .ife t a b, e => match e with
    | .IfExp t' a' b' _ => chE x t t' && chE x a a' && chE x b b'
    | _ => false
  | .idx a i, e => match e with
    | .Subscript l s _ => !isSlice s && chE x a l && chE x i s
    | _ => false
  | .slA a, e => match e with
    | .Subscript l (.Slice none none none _) _ => chE x a l
    | _ => false
  | .slL a lo, e => match e with
    | .Subscript l (.Slice (some lo') none none _) _ => chE x a l && chE x lo lo'
    | _ => false
  | .slU a hi, e => match e with
    | .Subscript l (.Slice none (some hi') none _) _ => chE x a l && chE x hi hi'
    | _ => false
  | .slB a lo hi, e => match e with
    | .Subscript l (.Slice (some lo') (some hi') none _) _ => chE x a l && chE x lo lo' && chE x hi hi'
    | _ => false
  | .call f es, e => match e with
    | .Call (.Name n _) l [] _ => !x.hot && (match x.ds[f]? with | some d => decide (d.name = n) && (d.nc || !x.nc) | none => false) && glB x.sc n && chEs x es l
    | _ => false
  | .blt b es, e => match e with
    | .Call (.Name n _) (l0 :: l) [] _ => !x.hot && (match bltN b with | some p => decide (p.1 = n) | none => false) && glB x.sc n && chEs x es (l0 :: l)
    | _ => false
  | .lrg es, e => match e with
    | .Call (.Name n _) [.Call (.Name n2 _) l [] _] [] _ => !x.hot && decide (n = "list") && decide (n2 = "range") && glB x.sc n && glB x.sc n2 && decide (l.length = 1 ∨ l.length = 2) && chEs x es l
    | _ => false
  | .trg es, e => match e with
    | .Call (.Name n _) [.Call (.Name n2 _) l [] _] [] _ => !x.hot && decide (n = "tuple") && decide (n2 = "range") && glB x.sc n && glB x.sc n2 && decide (l.length = 1 ∨ l.length = 2) && chEs x es l
    | _ => false
  | .isI a t, e => match e with
    | .Call (.Name n _) [l, .Name n2 _] [] _ => decide (n = "isinstance") && glB x.sc n && glB x.sc n2 && (match tyN t with | some y => decide (n2 = y) | none => false) && !isStar l && chE x a l
    | _ => false
  | .tx op a b, e => match e with
    | .Call (.Attribute l n apos) [l2] [] pos => decide (txN op = n) && !isSuper l && !isStar l2 && (apos.endLine == pos.line) && chE x a l && chE x b l2
    | _ => false
  | .srev a, e => match e with
    | .Call (.Name n _) [l] [⟨some k, .Constant (.bool true) _ _, _⟩] _ => decide (n = "sorted") && decide (k = "reverse") && !x.hot && glB x.sc n && !isStar l && chE x a l
    | _ => false
  | .isX i c, e => match e with
    | .Call (.Name n _) [.Name n1 _, .Name n2 _] [] _ => x.hot && decide (n = "isinstance") && glB x.sc n && glB x.sc n2 && varB x i n1 && (match c with | some c => decide (x.excs[c]? = some n2) | none => decide (n2 = "ValueError"))
    | _ => false
  | .mth t o es, e => match e with
    | .Call (.Attribute l n apos) as [] cpos => (match mthN t with | some p => decide (p.1 = n) | none => false) && !isSuper l && (apos.endLine == cpos.line) && decide (as.length < 20) && chE x o l && chEs x es as
    | _ => false
  | .comp elt g it, e => match e with
    | .ListComp elt' [⟨tg, iter, ifs, k⟩] scope _ => !x.hot && k == 0 && ifs.isEmpty && !isSet iter && blkC x.N x.sc scope (ownN x g) && chT (inner x scope) g tg && chI x it tg iter && chE (inner x scope) elt elt'
    | _ => false
  | .compIf elt g it c, e => match e with
    | .ListComp elt' [⟨tg, iter, ifs, k⟩] scope _ => !x.hot && k == 0 && !isSet iter && blkC x.N x.sc scope (ownN x g) && chT (inner x scope) g tg && chI x it tg iter && (match ifs with | [c'] => chE (inner x scope) c c' | _ => false) && chE (inner x scope) elt elt'
    | _ => false
def chEs (x : Ctx) : CEs → List Expr → Bool
  | .nil, l => match l with
    | [] => true
    | _ => false
  | .cons e es, l => match l with
    | e' :: l => !isStar e' && chE x e e' && chEs x es l
    | _ => false
def chI (x : Ctx) : CI → Expr → Expr → Bool
  | .seq a, tg, e => chE x a e
  | .rng1 a, tg, e => match e with
    | .Call (.Name n _) [a'] [] _ => decide (n = "range") && glB x.sc n && !isStar a' && chE x a a'
    | _ => false
  | .rng2 a b, tg, e => match e with
    | .Call (.Name n _) [a', b'] [] _ => decide (n = "range") && glB x.sc n && !isStar a' && !isStar b' && chE x a a' && chE x b b'
    | _ => false
  | .rng3 a b c, tg, e => match e with
    | .Call (.Name n _) [a', b', c'] [] _ => decide (n = "range") && glB x.sc n && !isStar a' && !isStar b' && !isStar c' && chE x a a' && chE x b b' && chE x c c'
    | _ => false
  | .enum a, tg, e => match tg, e with
    | .Tuple .., .Call (.Name n _) [l] [] _ => decide (n = "enumerate") && glB x.sc n && !isStar l && chE x a l
    | _, _ => false
  | .rev a, tg, e => match e with
    | .Call (.Name n _) [l] [] _ => decide (n = "reversed") && glB x.sc n && !isStar l && chE x a l
    | _ => false
  | .keys _, _, _ => false
  | .items _, _, _ => false
end
/-- a comprehension is handed to the name at once -/
def swB (x : Ctx) (t : Expr) (e : Expr) : Bool := match t, e with
  | .Name n pos, .ListComp _ _ scope cpos => locB x.sc n && (pos.line == cpos.line) && !(scope.names.any fun (m, k) => m == n && (k == .local || k == .cell))
  | _, _ => false
/-- .. or to a name that is a cell, as any value -/
def swC (x : Ctx) (t : Expr) : Bool := match t with
  | .Name n _ => celB x.sc n
  | _ => false
def isTupE : Expr → Bool
  | .Tuple .. => true
  | .List .. => true
  | _ => false
mutual
def chS (x : Ctx) : CS → Stmt → Bool
  | .asg g e, s => match s with
    | .Assign [t] v _ => chT x g t && chE x e v && (match g with
      | .var _ => !isComp v || swC x t || swB x t v
      | .tup _ => !isComp v && !isTupE v)
    | _ => false
  | .par i j a b, s => match s with
    | .Assign [.Tuple [.Name n1 p1, .Name n2 p2] _ _] (.Tuple [a', b'] _ _) _ => !x.hot && decide (i ≠ j) && stoB x i n1 && stoB x j n2 && locB x.sc n1 && locB x.sc n2 && !isStar a' && !isStar b' && chE x a a' && chE x b b' && !(n1 == n2) && (p1.line == p2.line) && !(([a', b'] : List Expr).all (foldedForSure 8)) && !(([a', b'] : List Expr).all (constantsAlone 8))
    | _ => false
  | .sub o i e, s => match s with
    | .Assign [.Subscript o' i' _] v _ => !isSlice i' && !isComp v && chE x e v && chE x o o' && chE x i i'
    | _ => false
  | .ex e, s => match s with
    | .Expr v _ => !isComp v && chE x e v
    | _ => false
  | .ret e, s => match s with
    | .Return (some v) _ => chE x e v
    | _ => false
  | .ret0, s => match s with
    | .Return none _ => true
    | _ => false
  | .iff t a b, s => match s with
    | .If t' a' b' _ => chE x t t' && chSs x a a' && chSs x b b'
    | _ => false
  | .whl t b, s => match s with
    | .While t' b' [] _ => chE x t t' && chSs x b b'
    | _ => false
  | .for_ g it b, s => match s with
    | .For tg iter b' [] _ => !x.hot && !isSet iter && chT x g tg && chI x it tg iter && chSs x b b'
    | _ => false
  | .brk, s => match s with
    | .Break _ => true
    | _ => false
  | .cnt, s => match s with
    | .Continue _ => true
    | _ => false
  | .pass, s => match s with
    | .Pass _ => true
    | _ => false
  | .raise c, s => match s with
    | .Raise (some (.Call (.Name n _) [.Constant (.str _) _ _] [] _)) none _ => !x.hot && decide (x.excs[c]? = some n) && glB x.sc n
    | _ => false
  | .tryA b c i su, s => match s with
    | .Try b' [.ExceptHandler (some (.Name n _)) (some y) (s0 :: s') _] [] [] _ => !x.hot && !x.nc && !x.tr && decide (x.excs[c]? = some n) && glB x.sc n && decide (x.N[i]? = some y) && locB x.sc y && chSs { x with tr := true } b b' && chSs { x with hot := true, tr := true } su (s0 :: s')
    | _ => false
  | .tryR b c d, s => match s with
    | .Try b' [.ExceptHandler (some (.Name n _)) none [.Raise (some (.Call (.Name n2 _) [.Constant (.str _) _ _] [] _)) none _] _] [] [] _ => !x.hot && !x.nc && !x.tr && decide (x.excs[c]? = some n) && glB x.sc n && decide (x.excs[d]? = some n2) && glB x.sc n2 && chSs { x with nc := true, tr := true } b b'
    | _ => false
def chSs (x : Ctx) : CSs → List Stmt → Bool
  | .nil, l => match l with
    | [] => true
    | _ => false
  | .cons s ss, l => match l with
    | s' :: l => chS x s s' && chSs x ss l
    | _ => false
end
end Cw

set_option Elab.async false
set_option linter.all false
set_option maxRecDepth 100000
set_option maxHeartbeats 2000000
/-! soundness of expressions -/
namespace Cw
open PySem PySem.Spec PyProof.Rows L2

/-- the built-ins in use, which the module must not have as names of its own -/
def bltNames : List Str := ["len", "abs", "min", "max", "int", "str", "sum", "any", "all", "sorted", "list", "tuple", "range", "isinstance", "enumerate", "reversed", "bool"]
/-- what the classes of exceptions say of each other -/
structure ExF (m : Mm) (mg : Str → Option Value) (excs : List Str) : Prop where
  at_ : ∀ (c : Nat) (n : Str), excs[c]? = some n → ∃ C, mg n = some (.ref C) ∧ m.clv c = .ref C
  isx : ∀ k c b, m.C.isx k c = some b → PySem.W.exmOne m.K (m.clv k) (m.clv c) = some b ∧ PySem.W.kitOne m.K (m.clv k) (m.clv c) = some b ∧ ∃ D, m.clv k = .ref D ∧ ExcC m.K D ∧ PySem.W.kitOne m.K (.ref D) (.type "ValueError") = some true
  ve : mg "ValueError" = none
/-- what an exception is known to be behind a call: b, its context is None -/
def CXb (b : Bool) (P : Program) (w : World) : L2.CXT := match b with
  | true => L2N.CX P w
  | false => L2.CX P w
theorem takesN {X : Cx} {W : WX} (t : L2.Takes X W) : L2N.Takes X W := fun u s' ⟨a, B, sI, pins, σ, H, cls, d, e, I, nb, up, sky, na, os, ag, w⟩ =>
  t u s' ⟨a, B, sI, pins, σ, H, cls, d, e, I, nb, up, (by
    have z : ∀ o, L2N.Zn cls d o → Zc cls d o := fun o h => h.zc
    rcases sky with ⟨h1, h2, h3, oe, vs, h4, h5, h6⟩ | h | h
    · exact .inl ⟨h1, h2, h3, oe, vs, h4, z _ h5, h6⟩
    · exact .inr (.inl (L2H.flyingZ_imp z h))
    · exact .inr (.inr ⟨h.1, h.2.1, h.2.2.1, L2H.tracedZ_imp z h.2.2.2⟩)), na, os, ag, w⟩
theorem pas_of {X : Cx} {W : WX} (t : L2.Takes X W) : ∀ b, ∀ σ, PassesAt (CXb b X.prog X.w) X σ (WE W σ)
  | true => fun σ => L2N.passAt (takesN t) σ
  | false => fun σ => L2.passAt t σ
structure Good (m : Mm) (x : Ctx) (X : Cx) (W : WX) : Prop where
  g : Gx m X
  N : X.N = x.N
  nd : x.N.Nodup
  sc : X.env.scope = x.sc
  fk : x.sc.kind = .function
  fn : x.top = true → ∀ n, X.fn n = true
  calm : x.hot = false → X.calm = true
  tkN : L2N.Takes X W
  pas : ∀ b, (b || !x.nc) = true → ∀ σ, PassesAt (CXb b X.prog X.w) X σ (WE W σ)
  blt : ∀ n ∈ bltNames, X.mg n = none
  con : ∀ n u, x.consts.lookup n = some u → ∃ val v, X.mg n = some val ∧ RelV v val ∧ sV u = some v
  exf : ExF m X.mg x.excs
  hotc : x.hot = true → ∃ D, m.clv m.ek = .ref D ∧ PySem.W.kitOne X.K (.ref D) (.type "ValueError") = some true ∧ CallR X (.builtin "isinstance") (rIsE X.K D m.ea)
  fns : x.hot = false → ∀ f d, x.ds[f]? = some d → ∃ fa fd ps k, X.mg d.name = some (.ref fa) ∧ PySem.W.keepIn X.K (.ref fa) = true ∧ Binds X.K fd ps [] ∧ Room k X.A ∧ FnOk X.prog X.w X.K X.mg X.base (CXb d.nc X.prog X.w) k fa fd ps (spC m f)

section
variable {m : Mm} {x : Ctx} {X : Cx} {W : WX}
theorem Good.vis (G : Good m x X W) {n : Str} (h : visB x.sc n = true) : Vis X.env.scope n := by
  rw [G.sc]
  unfold visB at h
  unfold Vis
  split at h <;> first | (rename_i e; rw [e]; simp) | cases h
theorem Good.gl (G : Good m x X W) {n : Str} (h : glB x.sc n = true) : Gl X n ∧ (n == ("__debug__" : Str)) = false := by
  unfold glB at h
  rw [Bool.and_eq_true] at h
  refine ⟨?_, by simpa using h.2⟩
  have h1 := h.1
  show X.env.scope.names.lookup n = _
  rw [G.sc]
  split at h1
  · assumption
  · cases h1
theorem Good.mgn (G : Good m x X W) {n : Str} (h : n ∈ bltNames) : X.mg n = none := G.blt n h
theorem star1 {e : Expr} {env : PySem.Env} {es : List Expr} (h : isStar e = false) : starEach (e :: es) env = (false, eval e env) :: starEach es env := by
  cases e <;> first | rfl | cases h
theorem plain_he {e : Expr} {env : PySem.Env} (h : plainT e = true) (whole : Sem Value) : isTrue e env whole = (do let v ← whole; standAt e.pos; holding [v] (truthy v)) := by
  cases e <;> first | rfl | (rename_i op _ _; cases op <;> first | rfl | cases h) | cases h
theorem super_he {e : Expr} {env : PySem.Env} {n : Str} (h : isSuper e = false) : attributeBase e n env (eval e env) = eval e env := by
  unfold attributeBase
  split
  · cases h
  · rfl
theorem set_he {e : Expr} {env : PySem.Env} (h : isSet e = false) (v : Value) : foldedSetIterable e env v = pure v := by
  cases e <;> first | rfl | cases h
theorem slice_he {e : Expr} (h : isSlice e = false) : PlainIx e := by
  intro o i
  cases e <;> first | rfl | cases h
theorem mark_he {op : CmpOp} {e : Expr} (h : isSet e = false) : behindInMarks op e = false := by
  cases e <;> first | rfl | cases h
theorem sw_he {e : Expr} {t : Option Expr} {l : Nat} {env : PySem.Env} (h : isComp e = false) : swapsWith e t l env = pure false := by
  cases e <;> first | rfl | cases h
/-- arguments without a star -/
theorem chEs_star : ∀ {es : CEs} {l : List Expr}, chEs x es l = true → ∀ env : PySem.Env, starEach l env = l.map fun e => (false, eval e env)
  | .nil, l, h, env => by
    unfold chEs at h
    split at h
    · rfl
    · cases h
  | .cons c cs, l, h, env => by
    unfold chEs at h
    split at h
    · rename_i e l
      simp only [Bool.and_eq_true] at h
      rw [star1 (by simpa using h.1.1), chEs_star h.2 env]
      rfl
    · cases h
theorem chEs_len : ∀ {es : CEs} {l : List Expr}, chEs x es l = true → l.length = lenEs es
  | .nil, l, h => by
    unfold chEs at h
    split at h
    · rfl
    · cases h
  | .cons c cs, l, h => by
    unfold chEs at h
    split at h
    · rename_i e l
      simp only [Bool.and_eq_true] at h
      rw [List.length_cons, chEs_len h.2]
      rfl
    · cases h
theorem plain_any {pos : Pos} {l : List Expr} {env : PySem.Env} (h : starEach l env = l.map fun e => (false, eval e env)) : (backTo pos (starEach l env)).any (·.1) = false := by
  rw [h]
  unfold backTo
  rw [List.map_map, List.any_map]
  induction l with
  | nil => rfl
  | cons a l ih => simp [List.any_cons]
theorem plain_all {pos : Pos} {l : List Expr} {env : PySem.Env} (h : starEach l env = l.map fun e => (false, eval e env)) (hl : l.length < 20) :
    ((backTo pos (starEach l env)).all (fun x => !x.1) && (backToKw pos (keywordEach [] env)).all (fun x => x.1.isSome) && decide (l.length + ([] : List Keyword).length + (if ([] : List Keyword).isEmpty then 0 else 1) < 30)) = true := by
  rw [h]
  unfold backTo
  rw [List.map_map, List.all_map]
  have : (l.all ((fun x : Bool × Sem Value => !x.1) ∘ ((fun (p : Bool × Sem Value) => (p.1, if p.1 = true then do let v ← p.2; standAt pos; pure v else p.2)) ∘ fun e => (false, eval e env)))) = true := by
    rw [List.all_eq_true]
    intro a _
    rfl
  have h2 : decide (l.length + ([] : List Keyword).length + (if ([] : List Keyword).isEmpty then 0 else 1) < 30) = true := by
    rw [decide_eq_true_eq]
    simp
    omega
  rw [h2]
  simp only [Bool.and_true]
  rw [Bool.and_eq_true]
  exact ⟨this, rfl⟩
end

/-! ### expressions -/
section
variable {m : Mm} {x : Ctx} {X : Cx} {W : WX}
/-- a PE and, where the value is asked for its truth, a PT -/
def Snd (m : Mm) (X : Cx) (W : WX) (c : CE) (e : Expr) : Prop := PE X e (tE m W c) ∧ PT X e (tT m W c)
theorem snd_of {c : CE} {e : Expr} (h : plainT e = true) (p : PE X e (tE m W c)) : Snd m X W c e :=
  ⟨p, PT.mono (pt_val p (plain_he h)) fun σ H Q q => tT_val q⟩
theorem pt_of {c : CE} {e : Expr} (p : PT X e (tT m W c)) (v : PE X e (tE m W c)) : Snd m X W c e := ⟨v, p⟩

theorem s_var (G : Good m x X W) {i : Nat} {e : Expr} (h : chE x (.var i) e = true) : Snd m X W (.var i) e := by
  unfold chE at h
  split at h
  · rename_i n pos
    unfold varB at h
    simp only [Bool.and_eq_true, decide_eq_true_eq] at h
    obtain ⟨⟨⟨h1, h2⟩, h3⟩, h4⟩ := h
    refine snd_of rfl (PE.mono (pe_var (i := i) (by rw [G.N]; exact h1) (G.vis h2) (by simpa using h3) (by simpa using h4)) fun σ H Q q => ?_)
    obtain ⟨al, env, st, r, q1, q2, q3, q4⟩ := q
    rw [ev] at q3
    split at q3
    · rename_i u e1
      cases q3
      obtain ⟨v, e2, ru⟩ := q2.2 i u e1
      exact ⟨v, e2, q4 al H v Ext.refl q1 ru⟩
    · cases q3
  · cases h
theorem s_cst (G : Good m x X W) {u : U} {e : Expr} (h : chE x (.cst u) e = true) : Snd m X W (.cst u) e := by
  have key : ∀ {v : V} {t : TE}, PE X e t → (∀ σ H Q, Q v H → t σ H Q) → RelU m.KK [] (fun _ => none) u v → (∀ al H, m.RU al H u v) → plainT e = true → Snd m X W (.cst u) e := fun {v t} p i _ r pl =>
    snd_of pl (PE.mono p fun σ H Q q => by
      obtain ⟨al, env, st, r', q1, q2, q3, q4⟩ := q
      rw [ev] at q3
      cases q3
      exact i σ H Q (q4 al H v Ext.refl q1 (r al H)))
  unfold chE at h
  split at h
  · rw [decide_eq_true_eq] at h
    subst h
    exact key (v := .int _) pe_int (fun _ _ _ q => q) rfl (fun _ _ => rfl) rfl
  · rw [decide_eq_true_eq] at h
    subst h
    exact key (v := .bl _) pe_bl (fun _ _ _ q => q) rfl (fun _ _ => rfl) rfl
  · exact key (v := .non) pe_non (fun _ _ _ q => q) rfl (fun _ _ => rfl) rfl
  · rw [decide_eq_true_eq] at h
    subst h
    exact key (v := .str _) pe_str (fun _ _ _ q => q) rfl (fun _ _ => rfl) rfl
  · cases h
theorem sV_to {al : List Addr} {H : Hp} {u : U} {v : V} (e : sV u = some v) : m.RU al H u v := by
  cases u <;> first | (cases e; exact rfl) | cases e
theorem s_glb (G : Good m x X W) {n : Str} {u : U} {e : Expr} (h : chE x (.glb n u) e = true) : Snd m X W (.glb n u) e := by
  unfold chE at h
  split at h
  · rename_i n' pos
    simp only [Bool.and_eq_true, decide_eq_true_eq] at h
    obtain ⟨⟨h1, h2⟩, h3⟩ := h
    subst h1
    obtain ⟨g1, g2⟩ := G.gl h2
    have hu : x.consts.lookup n = some u := by
      split at h3
      · rename_i e1
        rw [decide_eq_true_eq] at h3
        rw [h3]; exact e1
      · rename_i e1
        rw [decide_eq_true_eq] at h3
        rw [h3]; exact e1
      · cases h3
    obtain ⟨val, v, k1, k2, k3⟩ := G.con n u hu
    refine snd_of rfl (PE.mono (pe_glob g1 k1 k2 g2) fun σ H Q q => ?_)
    obtain ⟨al, env, st, r', q1, q2, q3, q4⟩ := q
    rw [ev] at q3
    cases q3
    exact q4 al H v Ext.refl q1 (sV_to k3)
  · cases h
/-- a rule that gives what is wanted of the operator's answer -/
theorem fin_want {al : List Addr} {H : Hp} {Q : VK} {E : XK} {f : M U} {r : R U} (e : f = some r) (hr : FinE m r al H Q E) (hf : ∀ c st, f ≠ some (.exc c st)) : ∃ u st', f = some (.ok u st') ∧ Want m al H u st' Q := by
  cases r with
  | ok u st => exact ⟨u, st, e, hr⟩
  | exc c st => exact absurd e (hf c st)
theorem s_tup (G : Good m x X W) {es : CEs} {e : Expr} (ih : ∀ l, chEs x es l = true → PA X l (tA m W es)) (h : chE x (.tup es) e = true) : Snd m X W (.tup es) e := by
  unfold chE at h
  split at h
  · rename_i l k pos
    refine snd_of rfl (PE.mono (pe_tup (ih l h)) fun σ H Q q => ?_)
    obtain ⟨al, env, st, r, q1, q2, q3, q4⟩ := q
    rw [ev] at q3
    refine tA_bind q1 q2 q3 q4 fun us st1 al1 H1 vs y h1 he ru e1 hr => ?_
    split at e1
    · rename_i hz
      cases e1
      exact ⟨by rw [← lim_eq, ← ru.len]; exact hz, fun p hp => want_tup h1 hr ru hp⟩
    · cases e1
  · cases h
theorem s_lst (G : Good m x X W) {es : CEs} {e : Expr} (ih : ∀ l, chEs x es l = true → PA X l (tA m W es)) (h : chE x (.lst es) e = true) : Snd m X W (.lst es) e := by
  unfold chE at h
  split at h
  · rename_i l pos
    refine snd_of rfl (PE.mono (pe_lst (ih l h)) fun σ H Q q => ?_)
    obtain ⟨al, env, st, r, q1, q2, q3, q4⟩ := q
    rw [ev] at q3
    refine tA_bind q1 q2 q3 q4 fun us st1 al1 H1 vs y h1 he ru e1 hr => ?_
    split at e1
    · rename_i hz
      cases e1
      exact ⟨by rw [← lim_eq, ← ru.len]; exact hz, fun p hp => want_lst h1 hr ru hp⟩
    · cases e1
  · cases h
theorem s_dk0 (G : Good m x X W) {e : Expr} (h : chE x .dk0 e = true) : Snd m X W .dk0 e := by
  unfold chE at h
  split at h
  · refine snd_of rfl (PE.mono pe_dnewK fun σ H Q q => ?_)
    obtain ⟨al, env, st, r, q1, q2, q3, q4⟩ := q
    rw [ev] at q3
    cases q3
    exact fun p hp => want_new q1 q4 hp ⟨[], upd_same, .nil⟩
  · cases h
def tDNewN (m : Mm) : TE := fun _ H Q => ∀ p, H p = none → Q (.ref p) (upd H p (.ext (DX m.P m.w p [])))
theorem pe_dnewN (g : Gx m X) {pos : Pos} : PE X (.Dict [] [] pos) (tDNewN m) := ⟨fun pins s σ H Q I h => by
  have hp : H s.heap.objs.size = none := I.hok.fresh (Nat.le_refl _)
  have hd : (s.heap.objs.size == sysModules) = false := beq_eq_false_iff_ne.mpr (Ne.symm (Nat.ne_of_lt I.big))
  have e0 : (s.heap.push { cls := .type "dict", data := .dict #[] }).get? s.heap.objs.size = some { cls := .type "dict", data := .dict #[] } := Heap.get?_push_size _ rfl
  refine wpAny_Dict_empty ⟨.ref s.heap.objs.size, _, I.laid (a := s.heap.objs.size) (o := .ext (DX m.P m.w s.heap.objs.size [])) (t' := s.toks) (fun _ _ q => Heap.get?_push_of_some _ q) (Nat.le_refl _) ?_, rfl, h _ hp⟩
  refine ⟨⟨hd, Nat.zero_le _, _, #[], 0, e0, ⟨rfl, rfl, rfl⟩, rfl, rfl, List.nodup_nil⟩, ⟨_, e0⟩, fun g1 g2 p k' => ?_⟩
  obtain ⟨p1, p2, o, es, ep, p3, p4⟩ := p
  exact ⟨p1, p2, o, es, ep, k' _ p3, p4⟩⟩
theorem s_dn0 (G : Good m x X W) {e : Expr} (h : chE x .dn0 e = true) : Snd m X W .dn0 e := by
  unfold chE at h
  split at h
  · refine snd_of rfl (PE.mono (pe_dnewN G.g) fun σ H Q q => ?_)
    obtain ⟨al, env, st, r, q1, q2, q3, q4⟩ := q
    rw [ev] at q3
    cases q3
    exact fun p hp => want_new q1 q4 hp ⟨[], upd_same, .nil⟩
  · cases h
/-- two operands, then an operator that raises nothing -/
theorem two_ops {a b : CE} {f : U → U → Sto → M U} {r : R2} {σ : L2.St} {H : Hp} {Q : VK} {al : List Addr} {env : Env} {st : Sto} {res : R U} (hf : ∀ u v s c s', f u v s ≠ some (.exc c s')) (q1 : m.RH al H st) (q2 : m.RE al H env σ)
    (q3 : (ev m.C a env st).bind (fun x st => (ev m.C b env st).bind fun y st => f x y st) = some res) (q4 : FinE m res al H Q (fun cl d H' => W cl d σ H'))
    (hr : ∀ al st u1 u2 u st' H x y, m.RH al H st → m.RU al H u1 x → m.RU al H u2 y → f u1 u2 st = some (.ok u st') → Want m al H u st' Q → r x y H Q) : tOp r (tE m W a) (tE m W b) σ H Q := by
  refine tE_bind q1 q2 q3 q4 fun u1 st1 al1 H1 v1 y1 h1 he1 r1 e1 f1 => ?_
  refine tE_bind h1 he1 e1 f1 fun u2 st2 al2 H2 v2 y2 h2 he2 r2 e2 f2 => ?_
  obtain ⟨u, st', e3, w⟩ := fin_want e2 f2 (fun c s => hf _ _ _ c s)
  exact hr al2 st2 u1 u2 u st' H2 v1 v2 h2 (RelU.mono y2 u1 r1) r2 e3 w
theorem binU_ok (op : Bop) : ∀ u v s c s', binU op u v s ≠ some (.exc c s') := by
  intro u v s c s' e
  unfold binU at e
  repeat' split at e
  all_goals cases e
theorem cmpU_ok (op : Cop) : ∀ u v s c s', cmpU op u v s ≠ some (.exc c s') := by
  intro u v s c s' e
  unfold cmpU at e
  simp only at e
  split at e
  all_goals cases e
theorem idxU_ok : ∀ u v s c s', idxU u v s ≠ some (.exc c s') := by
  intro u v s c s' e
  unfold idxU at e
  repeat' split at e
  all_goals cases e
theorem s_bin (G : Good m x X W) {op : Bop} {a b : CE} {e : Expr} (ia : ∀ e, chE x a e = true → Snd m X W a e) (ib : ∀ e, chE x b e = true → Snd m X W b e) (h : chE x (.bin op a b) e = true) : Snd m X W (.bin op a b) e := by
  unfold chE at h
  split at h
  · rename_i l o r pos
    simp only [Bool.and_eq_true] at h
    obtain ⟨⟨h1, h2⟩, h3⟩ := h
    have key : OpR X (binaryOp o) (rB m (binU op)) := by
      cases op <;> cases o <;> first | cases h1 | skip
      · exact add_ok G.g
      · exact sub_ok G.g
      · exact mul_ok G.g
      · exact fdiv_ok G.g
      · exact mod_ok G.g
      · exact pow_ok G.g
    refine snd_of rfl (PE.mono (pe_op key (ia l h2).1 (ib r h3).1) fun σ H Q q => ?_)
    obtain ⟨al, env, st, r, q1, q2, q3, q4⟩ := q
    rw [ev] at q3
    exact two_ops (binU_ok op) q1 q2 q3 q4 fun al st u1 u2 u st' H x y k1 k2 k3 k4 k5 => ⟨al, st, u1, u2, u, st', k1, k2, k3, k4, k5⟩
  · cases h
theorem s_idx (G : Good m x X W) {a b : CE} {e : Expr} (ia : ∀ e, chE x a e = true → Snd m X W a e) (ib : ∀ e, chE x b e = true → Snd m X W b e) (h : chE x (.idx a b) e = true) : Snd m X W (.idx a b) e := by
  unfold chE at h
  split at h
  · rename_i l s pos
    simp only [Bool.and_eq_true] at h
    obtain ⟨⟨h1, h2⟩, h3⟩ := h
    refine snd_of rfl (PE.mono (pe_ix (ix_ok G.g) (ia l h2).1 (ib s h3).1 (slice_he (by simpa using h1))) fun σ H Q q => ?_)
    obtain ⟨al, env, st, r, q1, q2, q3, q4⟩ := q
    rw [ev] at q3
    exact two_ops idxU_ok q1 q2 q3 q4 fun al st u1 u2 u st' H x y k1 k2 k3 k4 k5 => ⟨al, st, u1, u2, u, st', k1, k2, k3, k4, k5⟩
  · cases h
theorem s_neg (G : Good m x X W) {a : CE} {e : Expr} (ia : ∀ e, chE x a e = true → Snd m X W a e) (h : chE x (.neg a) e = true) : Snd m X W (.neg a) e := by
  unfold chE at h
  split at h
  · rename_i l pos
    refine snd_of rfl (PE.mono (pe_un un_neg (ia l h).1) fun σ H Q q => ?_)
    obtain ⟨al, env, st, r, q1, q2, q3, q4⟩ := q
    rw [ev] at q3
    refine tE_bind q1 q2 q3 q4 fun u1 st1 al1 H1 v1 y1 h1 he1 r1 e1 f1 => ?_
    split at e1
    · rename_i i
      cases e1
      exact ⟨i, r1, f1 al1 H1 _ Ext.refl h1 rfl⟩
    · cases e1
  · cases h

/-! ### comparisons -/
/-- the reading of a comparison by its rule -/
def rCmp (m : Mm) (op : Cop) : R2 := fun x y H Q => ∃ al st u1 u2 c, m.RH al H st ∧ m.RU al H u1 x ∧ m.RU al H u2 y ∧ cmpU op u1 u2 st = some (.ok (.bl c) st) ∧ Q (.bl c) H
theorem cmp_split {op : Cop} {u1 u2 : U} {st : Sto} {c : Bool} {f : Option Bool} (e : cmpU op u1 u2 st = some (.ok (.bl c) st)) (hf : cmpU op u1 u2 st = match f with | some c => some (.ok (.bl c) st) | none => none) : f = some c := by
  rw [hf] at e
  split at e
  · cases e; rfl
  · cases e
theorem cmp_op (g : Gx m X) {op : Cop} {o : CmpOp} (h : copB op o = true) : OpR X (compareOp o) (rCmp m op) := by
  intro pins s σ H x y v u Q I rx ry ⟨al, st, u1, u2, c, k1, k2, k3, k4, q⟩
  cases op <;> cases o <;> first | cases h | skip
  · exact eq_ok g pins s σ H x y v u Q I rx ry ⟨al, st, u1, u2, c, k1, k2, k3, cmp_split k4 rfl, q⟩
  · have := cmp_split (f := (eqU st u1 u2).map (!·)) k4 rfl
    cases e : eqU st u1 u2 with
    | none => rw [e] at this; cases this
    | some d =>
      rw [e] at this
      cases this
      exact ne_ok g pins s σ H x y v u Q I rx ry ⟨al, st, u1, u2, d, k1, k2, k3, e, q⟩
  · exact lt_ok g pins s σ H x y v u Q I rx ry ⟨al, st, u1, u2, c, k1, k2, k3, cmp_split k4 rfl, q⟩
  · unfold cmpU at k4
    simp only at k4
    split at k4
    · rename_i c' e1
      split at e1
      · cases e1
        cases k4
        exact op_le pins s σ H x y v u Q I rx ry ⟨_, _, k2, k3, q⟩
      · cases e1
    · cases k4
  · unfold cmpU at k4
    simp only at k4
    split at k4
    · rename_i c' e1
      split at e1
      · cases e1
        cases k4
        exact op_gt pins s σ H x y v u Q I rx ry ⟨_, _, k2, k3, q⟩
      · cases e1
    · cases k4
  · unfold cmpU at k4
    simp only at k4
    split at k4
    · rename_i c' e1
      split at e1
      · cases e1
        cases k4
        exact op_ge pins s σ H x y v u Q I rx ry ⟨_, _, k2, k3, q⟩
      · cases e1
    · cases k4
  · exact in_ok g pins s σ H x y v u Q I rx ry ⟨al, st, u1, u2, c, k1, k2, k3, cmp_split k4 rfl, q⟩
  · have := cmp_split (f := (inU st u1 u2).map (!·)) k4 rfl
    cases e : inU st u1 u2 with
    | none => rw [e] at this; cases this
    | some d =>
      rw [e] at this
      cases this
      exact notin_ok g pins s σ H x y v u Q I rx ry ⟨al, st, u1, u2, d, k1, k2, k3, e, q⟩
theorem cmpU_bl {op : Cop} {u1 u2 u : U} {st st' : Sto} (e : cmpU op u1 u2 st = some (.ok u st')) : ∃ c, u = .bl c ∧ st' = st := by
  unfold cmpU at e
  simp only at e
  split at e
  · cases e; exact ⟨_, rfl, rfl⟩
  · cases e
theorem s_cmp (G : Good m x X W) {op : Cop} {a b : CE} {e : Expr} (ia : ∀ e, chE x a e = true → Snd m X W a e) (ib : ∀ e, chE x b e = true → Snd m X W b e) (h : chE x (.cmp op a b) e = true) : Snd m X W (.cmp op a b) e := by
  unfold chE at h
  split at h
  · rename_i l o r pos
    simp only [Bool.and_eq_true] at h
    obtain ⟨⟨⟨h1, h2⟩, h3⟩, h4⟩ := h
    have hm : behindInMarks o r = false := mark_he (by simpa using h2)
    have rd : ∀ {σ : L2.St} {H : Hp} {Q : VK} {al : List Addr} {env : Env} {st : Sto} {res : R U}, m.RH al H st → m.RE al H env σ → ev m.C (.cmp op a b) env st = some res → FinE m res al H Q (fun cl d H' => W cl d σ H') → tOp (rCmp m op) (tE m W a) (tE m W b) σ H Q := by
      intro σ H Q al env st res q1 q2 q3 q4
      rw [ev] at q3
      refine two_ops (cmpU_ok op) q1 q2 q3 q4 fun al st u1 u2 u st' H x y k1 k2 k3 k4 k5 => ?_
      obtain ⟨c, rfl, rfl⟩ := cmpU_bl k4
      exact ⟨al, _, u1, u2, c, k1, k2, k3, k4, k5 al H _ Ext.refl k1 rfl⟩
    refine ⟨PE.mono (pe_cmpR (cmp_op G.g h1) (ia l h3).1 (ib r h4).1 hm) fun σ H Q q => ?_, PT.mono (pt_cmpR (cmp_op G.g h1) (ia l h3).1 (ib r h4).1 hm) fun σ H Q q => ?_⟩
    · obtain ⟨al, env, st, r, q1, q2, q3, q4⟩ := q
      exact rd q1 q2 q3 q4
    · obtain ⟨al, env, st, r, q1, q2, q3, q4⟩ := tT_val q
      exact rd q1 q2 q3 q4
  · cases h
theorem s_isN (G : Good m x X W) {a : CE} {e : Expr} (ia : ∀ e, chE x a e = true → Snd m X W a e) (h : chE x (.isN a) e = true) : Snd m X W (.isN a) e := by
  unfold chE at h
  split at h
  · rename_i l k p pos
    have rd : ∀ {σ : L2.St} {H : Hp} {Q : VK} {al : List Addr} {env : Env} {st : Sto} {res : R U}, m.RH al H st → m.RE al H env σ → ev m.C (.isN a) env st = some res → FinE m res al H Q (fun cl d H' => W cl d σ H') → tIsN (tE m W a) σ H Q := by
      intro σ H Q al env st res q1 q2 q3 q4
      rw [ev] at q3
      refine tE_bind q1 q2 q3 q4 fun u1 st1 al1 H1 v1 y1 h1 he1 r1 e1 f1 => ?_
      cases e1
      have : decide (v1 = .non) = isNo u1 := by
        cases u1 <;> first
          | (obtain rfl := (show v1 = _ from r1); rfl)
          | (obtain ⟨a, _, rfl, _⟩ := r1; rfl)
          | (obtain ⟨a, rfl, _⟩ := r1; rfl)
          | (obtain ⟨rfl, _⟩ := r1; rfl)
      rw [this]
      exact f1 al1 H1 _ Ext.refl h1 rfl
    refine ⟨PE.mono (pe_cmp (pc_isN (ia l h).1) rfl) fun σ H Q q => ?_, PT.mono (pt_cmp (pc_isN (ia l h).1) rfl) fun σ H Q q => ?_⟩
    · obtain ⟨al, env, st, r, q1, q2, q3, q4⟩ := q
      exact rd q1 q2 q3 q4
    · obtain ⟨al, env, st, r, q1, q2, q3, q4⟩ := tT_val q
      exact rd q1 q2 q3 q4
  · cases h
theorem s_noN (G : Good m x X W) {a : CE} {e : Expr} (ia : ∀ e, chE x a e = true → Snd m X W a e) (h : chE x (.noN a) e = true) : Snd m X W (.noN a) e := by
  unfold chE at h
  split at h
  · rename_i l k p pos
    have rd : ∀ {σ : L2.St} {H : Hp} {Q : VK} {al : List Addr} {env : Env} {st : Sto} {res : R U}, m.RH al H st → m.RE al H env σ → ev m.C (.noN a) env st = some res → FinE m res al H Q (fun cl d H' => W cl d σ H') → tNotN (tE m W a) σ H Q := by
      intro σ H Q al env st res q1 q2 q3 q4
      rw [ev] at q3
      refine tE_bind q1 q2 q3 q4 fun u1 st1 al1 H1 v1 y1 h1 he1 r1 e1 f1 => ?_
      cases e1
      have : (!decide (v1 = .non)) = (!isNo u1) := by
        cases u1 <;> first
          | (obtain rfl := (show v1 = _ from r1); rfl)
          | (obtain ⟨a, _, rfl, _⟩ := r1; rfl)
          | (obtain ⟨a, rfl, _⟩ := r1; rfl)
          | (obtain ⟨rfl, _⟩ := r1; rfl)
      rw [this]
      exact f1 al1 H1 _ Ext.refl h1 rfl
    refine ⟨PE.mono (pe_cmp (pc_notN (ia l h).1) rfl) fun σ H Q q => ?_, PT.mono (pt_cmp (pc_notN (ia l h).1) rfl) fun σ H Q q => ?_⟩
    · obtain ⟨al, env, st, r, q1, q2, q3, q4⟩ := q
      exact rd q1 q2 q3 q4
    · obtain ⟨al, env, st, r, q1, q2, q3, q4⟩ := tT_val q
      exact rd q1 q2 q3 q4
  · cases h
end
end Cw

set_option Elab.async false
set_option linter.all false
set_option maxRecDepth 100000
set_option maxHeartbeats 2000000
namespace Cw
open PySem PySem.Spec PyProof.Rows L2
section
variable {m : Mm} {x : Ctx} {X : Cx} {W : WX}
theorem tst_ok {x : M U} {r : R Bool} (h : tst x = some r) : (∃ b st, x = some (.ok (.bl b) st) ∧ r = .ok b st) ∨ ∃ c st, x = some (.exc c st) ∧ r = .exc c st := by
  unfold tst at h
  split at h
  · cases h; exact .inl ⟨_, _, rfl, rfl⟩
  · cases h; exact .inr ⟨_, _, rfl, rfl⟩
  · cases h
/-- a test whose value is made of a test's answer -/
theorem tT_of {c : CE} {k : Env → Bool → Sto → M U} {a : CE} {σ : L2.St} {H : Hp} {Q : Bool → Hp → Prop} (e : ∀ env st, ev m.C c env st = (tst (ev m.C a env st)).bind (k env)) (h : tT m W c σ H Q) :
    ∃ al env st r, m.RH al H st ∧ m.RE al H env σ ∧ (tst (ev m.C a env st)).bind (fun b s => tst (k env b s)) = some r ∧ FinB m r al H Q (fun cl d H' => W cl d σ H') := by
  obtain ⟨al, env, st, r, q1, q2, q3, q4⟩ := h
  refine ⟨al, env, st, r, q1, q2, ?_, q4⟩
  rw [e] at q3
  cases h1 : tst (ev m.C a env st) with
  | none => rw [h1] at q3; cases q3
  | some y =>
    rw [h1] at q3
    cases y with
    | ok b s => exact q3
    | exc c s => exact q3
theorem s_nt (G : Good m x X W) {a : CE} {e : Expr} (ia : ∀ e, chE x a e = true → Snd m X W a e) (h : chE x (.nt a) e = true) : Snd m X W (.nt a) e := by
  unfold chE at h
  split at h
  · rename_i l pos
    have p : PT X (.UnaryOp .Not l pos) (tT m W (.nt a)) := PT.mono (pt_not (ia l h).2) fun σ H Q q => by
      obtain ⟨al, env, st, r, q1, q2, q3, q4⟩ := tT_of (a := a) (k := fun env b st => some (.ok (.bl (!b)) st)) (fun env st => by rw [ev]) q
      refine tT_bind q1 q2 q3 q4 fun b st1 al1 H1 y1 h1 he1 e1 f1 => ?_
      cases e1
      exact f1 al1 H1 _ Ext.refl h1 rfl
    refine ⟨PE.mono (pe_not (ia l h).1) fun σ H Q q => ?_, p⟩
    obtain ⟨al, env, st, r, q1, q2, q3, q4⟩ := q
    rw [ev] at q3
    refine tT_val (tT_bind q1 q2 q3 q4 fun b st1 al1 H1 y1 h1 he1 e1 f1 => ?_)
    cases e1
    exact f1 al1 H1 _ Ext.refl h1 rfl
  · cases h
theorem pw_of {op : BoolOp} {l : List Expr} {pos : Pos} {t : TT} (h : PT X (.BoolOp op l pos) t) : PW X (.BoolOp op l pos) t := ⟨fun _ pins s σ H Q I q => h.run pins s σ H Q I q⟩
theorem s_and (G : Good m x X W) {a b : CE} {e : Expr} (ia : ∀ e, chE x a e = true → Snd m X W a e) (ib : ∀ e, chE x b e = true → Snd m X W b e) (h : chE x (.and_ a b) e = true) : Snd m X W (.and_ a b) e := by
  unfold chE at h
  split at h
  · rename_i l r rest pos
    simp only [Bool.and_eq_true] at h
    obtain ⟨h1, h2⟩ := h
    have hb : PW X (.BoolOp .And (r :: rest) pos) (tT m W b) ∧ PE X (.BoolOp .And (r :: rest) pos) (tE m W b) := by
      split at h2
      · exact ⟨pw_and1 (ib r h2).2, pe_one (ib r h2).1⟩
      · exact ⟨pw_of (ib _ h2).2, (ib _ h2).1⟩
    refine ⟨PE.mono (pe_and (ia l h1).1 hb.2) fun σ H Q q => ?_, PT.mono (PW.pt (pw_and (ia l h1).2 hb.1)) fun σ H Q q => ?_⟩
    · obtain ⟨al, env, st, r, q1, q2, q3, q4⟩ := q
      rw [ev] at q3
      refine tT_val (tT_bind q1 q2 q3 q4 fun c st1 al1 H1 y1 h1 he1 e1 f1 => ?_)
      cases c with
      | true => exact iteT (tE_of_T h1 he1 e1 f1)
      | false =>
        cases e1
        exact iteF (f1 al1 H1 _ Ext.refl h1 rfl)
    · obtain ⟨al, env, st, r, q1, q2, q3, q4⟩ := tT_of (a := a) (k := fun env c st => if c = true then (tst (ev m.C b env st)).bind fun d st => some (.ok (.bl d) st) else some (.ok (.bl false) st)) (fun env st => by rw [ev]) q
      refine tT_bind q1 q2 q3 q4 fun c st1 al1 H1 y1 h1 he1 e1 f1 => ?_
      cases c with
      | true =>
        refine iteT ⟨al1, env, st1, r, h1, he1, ?_, f1⟩
        have e2 : tst ((tst (ev m.C b env st1)).bind fun d st => some (.ok (.bl d) st)) = some r := e1
        cases h3 : tst (ev m.C b env st1) with
        | none => rw [h3] at e2; cases e2
        | some y =>
          rw [h3] at e2
          cases y <;> (cases e2; rfl)
      | false =>
        cases e1
        exact iteF (f1 al1 H1 _ Ext.refl h1 rfl)
  · cases h
theorem s_or (G : Good m x X W) {a b : CE} {e : Expr} (ia : ∀ e, chE x a e = true → Snd m X W a e) (ib : ∀ e, chE x b e = true → Snd m X W b e) (h : chE x (.or_ a b) e = true) : Snd m X W (.or_ a b) e := by
  unfold chE at h
  split at h
  · rename_i l r rest pos
    simp only [Bool.and_eq_true] at h
    obtain ⟨h1, h2⟩ := h
    have hb : PW X (.BoolOp .Or (r :: rest) pos) (tT m W b) ∧ PE X (.BoolOp .Or (r :: rest) pos) (tE m W b) := by
      split at h2
      · exact ⟨pw_or1 (ib r h2).2, pe_one (ib r h2).1⟩
      · exact ⟨pw_of (ib _ h2).2, (ib _ h2).1⟩
    refine ⟨PE.mono (pe_or (ia l h1).1 hb.2) fun σ H Q q => ?_, PT.mono (PW.pt (pw_or (ia l h1).2 hb.1)) fun σ H Q q => ?_⟩
    · obtain ⟨al, env, st, r, q1, q2, q3, q4⟩ := q
      rw [ev] at q3
      refine tT_val (tT_bind q1 q2 q3 q4 fun c st1 al1 H1 y1 h1 he1 e1 f1 => ?_)
      cases c with
      | false => exact iteF (tE_of_T h1 he1 e1 f1)
      | true =>
        cases e1
        exact iteT (f1 al1 H1 _ Ext.refl h1 rfl)
    · obtain ⟨al, env, st, r, q1, q2, q3, q4⟩ := tT_of (a := a) (k := fun env c st => if c = true then some (.ok (.bl true) st) else (tst (ev m.C b env st)).bind fun d st => some (.ok (.bl d) st)) (fun env st => by rw [ev]) q
      refine tT_bind q1 q2 q3 q4 fun c st1 al1 H1 y1 h1 he1 e1 f1 => ?_
      cases c with
      | false =>
        refine iteF ⟨al1, env, st1, r, h1, he1, ?_, f1⟩
        have e2 : tst ((tst (ev m.C b env st1)).bind fun d st => some (.ok (.bl d) st)) = some r := e1
        cases h3 : tst (ev m.C b env st1) with
        | none => rw [h3] at e2; cases e2
        | some y =>
          rw [h3] at e2
          cases y <;> (cases e2; rfl)
      | true =>
        cases e1
        exact iteT (f1 al1 H1 _ Ext.refl h1 rfl)
  · cases h
/-- a if t else b, as a test -/
theorem pt_ifExp {c a b : Expr} {pos : Pos} {tc ta tb : TT} (hc : PT X c tc) (ha : PT X a ta) (hb : PT X b tb) : PT X (.IfExp c a b pos) (fun σ H Q => tc σ H fun d H1 => if d = true then ta σ H1 Q else tb σ H1 Q) := by
  refine ⟨fun pins s σ H Q I h => ?_⟩
  show wpAny _ _ (do if ← isTrue c X.env (eval c X.env) then isTrue a X.env (eval a X.env) else isTrue b X.env (eval b X.env)) _ _ s
  refine wpAny_bind (thn (hc.run pins s σ H _ I h) fun d s1 ⟨H1, I1, q1⟩ => ?_)
  cases d with
  | true => exact ha.run pins s1 σ H1 Q I1 q1
  | false => exact hb.run pins s1 σ H1 Q I1 q1
theorem s_ife (G : Good m x X W) {t a b : CE} {e : Expr} (it : ∀ e, chE x t e = true → Snd m X W t e) (ia : ∀ e, chE x a e = true → Snd m X W a e) (ib : ∀ e, chE x b e = true → Snd m X W b e) (h : chE x (.ife t a b) e = true) : Snd m X W (.ife t a b) e := by
  unfold chE at h
  split at h
  · rename_i t' a' b' pos
    simp only [Bool.and_eq_true] at h
    obtain ⟨⟨h1, h2⟩, h3⟩ := h
    refine ⟨PE.mono (pe_ifExp (it t' h1).2 (ia a' h2).1 (ib b' h3).1) fun σ H Q q => ?_, PT.mono (pt_ifExp (it t' h1).2 (ia a' h2).2 (ib b' h3).2) fun σ H Q q => ?_⟩
    · obtain ⟨al, env, st, r, q1, q2, q3, q4⟩ := q
      rw [ev] at q3
      refine tT_bind q1 q2 q3 q4 fun c st1 al1 H1 y1 h1 he1 e1 f1 => ?_
      cases c with
      | true => exact iteT ⟨al1, env, st1, r, h1, he1, e1, f1⟩
      | false => exact iteF ⟨al1, env, st1, r, h1, he1, e1, f1⟩
    · obtain ⟨al, env, st, r, q1, q2, q3, q4⟩ := tT_of (a := t) (k := fun env c st => if c = true then ev m.C a env st else ev m.C b env st) (fun env st => by rw [ev]) q
      refine tT_bind q1 q2 q3 q4 fun c st1 al1 H1 y1 h1 he1 e1 f1 => ?_
      cases c with
      | true => exact iteT ⟨al1, env, st1, r, h1, he1, e1, f1⟩
      | false => exact iteF ⟨al1, env, st1, r, h1, he1, e1, f1⟩
  · cases h

/-! ### slices -/
theorem sliceU_ok : ∀ u lo hi s c s', sliceU u lo hi s ≠ some (.exc c s') := by
  intro u lo hi s c s' e
  unfold sliceU at e
  repeat' split at e
  all_goals cases e
/-- until the whole of a tuple has its rule -/
theorem sliceU_part {u w : U} {lo hi : Option Int} {st st' : Sto} (e : sliceU u lo hi st = some (.ok w st')) : ∀ l, u = .tup l → ¬ (HT.sIx l.length 0 lo = 0 ∧ HT.sIx l.length l.length hi = l.length) := by
  intro l hl
  subst hl
  unfold sliceU at e
  simp only at e
  split at e
  · cases e
  · assumption
theorem slice_end {u1 : U} {lo hi : Option Int} {st : Sto} {al : List Addr} {H : Hp} {v : V} {res : R U} {Q : VK} {E : XK} (h : m.RH al H st) (ru : m.RU al H u1 v) (e : sliceU u1 lo hi st = some res) (f : FinE m res al H Q E) : rSlU m v lo hi H Q := by
  obtain ⟨u, st', e3, w⟩ := fin_want e f (fun c s => sliceU_ok _ _ _ _ c s)
  exact ⟨al, st, u1, u, st', h, ru, e3, w, sliceU_part e3⟩
theorem s_slA (G : Good m x X W) {a : CE} {e : Expr} (ia : ∀ e, chE x a e = true → Snd m X W a e) (h : chE x (.slA a) e = true) : Snd m X W (.slA a) e := by
  unfold chE at h
  split at h
  · refine snd_of rfl (PE.mono (pe_slice (sl_ok G.g) (ia _ h).1 po_none po_none) fun σ H Q q => ?_)
    obtain ⟨al, env, st, r, q1, q2, q3, q4⟩ := q
    rw [ev] at q3
    refine tE_bind q1 q2 q3 q4 fun u1 st1 al1 H1 v1 y1 h1 he1 r1 e1 f1 => ?_
    exact slice_end h1 r1 e1 f1
  · cases h
theorem s_slL (G : Good m x X W) {a b : CE} {e : Expr} (ia : ∀ e, chE x a e = true → Snd m X W a e) (ib : ∀ e, chE x b e = true → Snd m X W b e) (h : chE x (.slL a b) e = true) : Snd m X W (.slL a b) e := by
  unfold chE at h
  split at h
  · simp only [Bool.and_eq_true] at h
    refine snd_of rfl (PE.mono (pe_slice (sl_ok G.g) (ia _ h.1).1 (po_some (ib _ h.2).1) po_none) fun σ H Q q => ?_)
    obtain ⟨al, env, st, r, q1, q2, q3, q4⟩ := q
    rw [ev] at q3
    refine tE_bind q1 q2 q3 q4 fun u1 st1 al1 H1 v1 y1 h1 he1 r1 e1 f1 => ?_
    refine tE_bind h1 he1 e1 f1 fun u2 st2 al2 H2 v2 y2 h2 he2 r2 e2 f2 => ?_
    split at e2
    · rename_i i
      exact ⟨i, r2, slice_end h2 (RelU.mono y2 u1 r1) e2 f2⟩
    · cases e2
  · cases h
theorem s_slU (G : Good m x X W) {a b : CE} {e : Expr} (ia : ∀ e, chE x a e = true → Snd m X W a e) (ib : ∀ e, chE x b e = true → Snd m X W b e) (h : chE x (.slU a b) e = true) : Snd m X W (.slU a b) e := by
  unfold chE at h
  split at h
  · simp only [Bool.and_eq_true] at h
    refine snd_of rfl (PE.mono (pe_slice (sl_ok G.g) (ia _ h.1).1 po_none (po_some (ib _ h.2).1)) fun σ H Q q => ?_)
    obtain ⟨al, env, st, r, q1, q2, q3, q4⟩ := q
    rw [ev] at q3
    refine tE_bind q1 q2 q3 q4 fun u1 st1 al1 H1 v1 y1 h1 he1 r1 e1 f1 => ?_
    refine tE_bind h1 he1 e1 f1 fun u2 st2 al2 H2 v2 y2 h2 he2 r2 e2 f2 => ?_
    split at e2
    · rename_i i
      exact ⟨i, r2, slice_end h2 (RelU.mono y2 u1 r1) e2 f2⟩
    · cases e2
  · cases h
theorem s_slB (G : Good m x X W) {a b c : CE} {e : Expr} (ia : ∀ e, chE x a e = true → Snd m X W a e) (ib : ∀ e, chE x b e = true → Snd m X W b e) (ic : ∀ e, chE x c e = true → Snd m X W c e) (h : chE x (.slB a b c) e = true) : Snd m X W (.slB a b c) e := by
  unfold chE at h
  split at h
  · simp only [Bool.and_eq_true] at h
    refine snd_of rfl (PE.mono (pe_slice (sl_ok G.g) (ia _ h.1.1).1 (po_some (ib _ h.1.2).1) (po_some (ic _ h.2).1)) fun σ H Q q => ?_)
    obtain ⟨al, env, st, r, q1, q2, q3, q4⟩ := q
    rw [ev] at q3
    refine tE_bind q1 q2 q3 q4 fun u1 st1 al1 H1 v1 y1 h1 he1 r1 e1 f1 => ?_
    refine tE_bind h1 he1 e1 f1 fun u2 st2 al2 H2 v2 y2 h2 he2 r2 e2 f2 => ?_
    split at e2
    · rename_i i
      refine ⟨i, r2, ?_⟩
      refine tE_bind h2 he2 e2 f2 fun u3 st3 al3 H3 v3 y3 h3 he3 r3 e3 f3 => ?_
      split at e3
      · rename_i j
        exact ⟨j, r3, slice_end h3 (RelU.mono y3 u1 (RelU.mono y2 u1 r1)) e3 f3⟩
      · cases e3
    · cases e2
  · cases h

/-! ### arguments, calls -/
theorem a_nil {l : List Expr} (h : chEs x .nil l = true) : PA X l (tA m W .nil) := by
  unfold chEs at h
  split at h
  · refine PA.mono pa_nil fun σ H Q q => ?_
    obtain ⟨al, env, st, r, q1, q2, q3, q4⟩ := q
    rw [evs] at q3
    cases q3
    exact q4 al H [] Ext.refl q1 rfl
  · cases h
theorem a_cons {c : CE} {cs : CEs} {l : List Expr} (ic : ∀ e, chE x c e = true → Snd m X W c e) (is : ∀ l, chEs x cs l = true → PA X l (tA m W cs)) (h : chEs x (.cons c cs) l = true) : PA X l (tA m W (.cons c cs)) := by
  unfold chEs at h
  split at h
  · rename_i e l
    simp only [Bool.and_eq_true] at h
    refine PA.mono (pa_cons (ic e h.1.2).1 (is l h.2) (star1 (by simpa using h.1.1))) fun σ H Q q => ?_
    obtain ⟨al, env, st, r, q1, q2, q3, q4⟩ := q
    rw [evs] at q3
    refine tE_bind q1 q2 q3 q4 fun u1 st1 al1 H1 v1 y1 h1 he1 r1 e1 f1 => ?_
    refine tA_bind h1 he1 e1 f1 fun u2 st2 al2 H2 v2 y2 h2 he2 r2 e2 f2 => ?_
    cases e2
    exact f2 al2 H2 _ Ext.refl h2 (.cons (RelU.mono y2 u1 r1) r2)
  · cases h
theorem s_call (G : Good m x X W) {f : Nat} {es : CEs} {e : Expr} (ih : ∀ l, chEs x es l = true → PA X l (tA m W es)) (h : chE x (.call f es) e = true) : Snd m X W (.call f es) e := by
  unfold chE at h
  split at h
  · rename_i n p l pos
    simp only [Bool.and_eq_true] at h
    obtain ⟨⟨⟨h0, h1⟩, h2⟩, h3⟩ := h
    split at h1
    · rename_i d hd
      rw [Bool.and_eq_true, decide_eq_true_eq] at h1
      obtain ⟨h1, hb⟩ := h1
      subst h1
      obtain ⟨g1, g2⟩ := G.gl h2
      obtain ⟨fa, fd, ps, k, k1, k2, k3, k4, k5⟩ := G.fns (by simpa using h0) f d hd
      have hs := chEs_star h3 X.env
      have rd : ∀ {σ : L2.St} {H : Hp} {Q : VK}, tE m W (.call f es) σ H Q → tA m W es σ H fun vs H1 => spC m f vs H1 Q (WE W σ) := by
        rintro σ H Q ⟨al, env, st, r, q1, q2, q3, q4⟩
        rw [ev] at q3
        exact tA_bind q1 q2 q3 q4 fun u1 st1 al1 H1 v1 y1 h1 he1 r1 e1 f1 => ⟨al1, st1, u1, r, h1, r1, e1, f1⟩
      cases l with
      | nil =>
        refine snd_of rfl ⟨fun pins s σ H Q I q => ?_⟩
        have q' := rd q
        obtain ⟨al, env, st, r, q1, q2, q3, q4⟩ := q'
        have hr : r = .ok [] st := by
          cases es with
          | nil => rw [evs] at q3; cases q3; rfl
          | cons c cs => unfold chEs at h3; cases h3
        subst hr
        refine wpAny_Call_Name_kw (ld_glob I g1 k1 ?_ g2)
        refine PySem.W.callWith_K0 I.kIn k2 (run_fnS (us := []) (E := fun σ => WE W σ) k5 k4 k3 (G.pas d.nc hb σ) I .nil (q4 al H [] Ext.refl q1 rfl))
      | cons e0 l =>
        have he := hs
        rw [List.map_cons] at he
        have hs' : starEach l X.env = l.map fun e => (false, eval e X.env) := by
          cases es with
          | nil => unfold chEs at h3; cases h3
          | cons c cs =>
            unfold chEs at h3
            simp only [Bool.and_eq_true] at h3
            exact chEs_star h3.2 X.env
        refine snd_of rfl (PE.mono (pe_callS (E := fun σ => WE W σ) k5 k4 g1 k1 k2 k3 (fun σ => G.pas d.nc hb σ) (ih _ h3) g2 (by rw [he, hs']) (plain_any hs')) fun σ H Q q => rd q)
    · cases h1
  · cases h
theorem bltU_ok (b : Blt) : ∀ us s c s', bltU b us s ≠ some (.exc c s') := by
  intro us s c s' e
  unfold bltU at e
  split at e
  all_goals first
    | cases e
    | (split at e <;> first
        | cases e
        | (split at e <;> cases e))
theorem s_blt (G : Good m x X W) {b : Blt} {es : CEs} {e : Expr} (ih : ∀ l, chEs x es l = true → PA X l (tA m W es)) (h : chE x (.blt b es) e = true) : Snd m X W (.blt b es) e := by
  unfold chE at h
  split at h
  · rename_i n p l0 l pos
    simp only [Bool.and_eq_true] at h
    obtain ⟨⟨⟨h0, h1⟩, h2⟩, h3⟩ := h
    have hcalm : X.calm = true := G.calm (by simpa using h0)
    obtain ⟨g1, g2⟩ := G.gl h2
    have he := chEs_star h3 X.env
    rw [List.map_cons] at he
    have hs' : starEach l X.env = l.map fun e => (false, eval e X.env) := by
      cases es with
      | nil => unfold chEs at h3; cases h3
      | cons c cs =>
        unfold chEs at h3
        simp only [Bool.and_eq_true] at h3
        exact chEs_star h3.2 X.env
    have rd : ∀ {σ : L2.St} {H : Hp} {Q : VK}, tE m W (.blt b es) σ H Q → tCB (rC m b) (tA m W es) σ H Q := by
      rintro σ H Q ⟨al, env, st, r, q1, q2, q3, q4⟩
      rw [ev] at q3
      refine tA_bind q1 q2 q3 q4 fun u1 st1 al1 H1 v1 y1 h1 he1 r1 e1 f1 => ?_
      obtain ⟨u, st', e3, w⟩ := fin_want e1 f1 (fun c s => bltU_ok b _ _ c s)
      exact ⟨al1, st1, u1, u, st', h1, r1, e3, w⟩
    have go : ∀ {id : String} (hv : bootBuiltins n = some (.builtin id)) (hc : CallR X (.builtin id) (rC m b)) (hm : n ∈ bltNames) (hn : n ≠ "__name__"), Snd m X W (.blt b es) (.Call (.Name n p) (l0 :: l) [] pos) := fun hv hc hm hn =>
      snd_of rfl (PE.mono (pe_callB hc g1 (G.mgn hm) hv (ih _ h3) hn g2 (by rw [he, hs']) (plain_any hs')) fun σ H Q q => rd q)
    have goT : ∀ {id : String} (hv : bootBuiltins n = some (.type id)) (hc : CallR X (.type id) (rC m b)) (hm : n ∈ bltNames) (hn : n ≠ "__name__"), Snd m X W (.blt b es) (.Call (.Name n p) (l0 :: l) [] pos) := fun hv hc hm hn =>
      snd_of rfl (PE.mono (pe_callTy hc g1 (G.mgn hm) hv (ih _ h3) hn g2 (by rw [he, hs']) (plain_any hs')) fun σ H Q q => rd q)
    split at h1
    · rename_i pr hp
      rw [decide_eq_true_eq] at h1
      cases b <;> first | (cases hp) | skip
      all_goals subst h1
      · exact go (by decide +kernel) (len_ok G.g) (by decide +kernel) (by decide +kernel)
      · exact go (by decide +kernel) (abs_ok G.g) (by decide +kernel) (by decide +kernel)
      · exact go (by decide +kernel) (min2_ok G.g hcalm) (by decide +kernel) (by decide +kernel)
      · exact go (by decide +kernel) (max2_ok G.g hcalm) (by decide +kernel) (by decide +kernel)
      · exact go (by decide +kernel) (min1_ok G.g hcalm) (by decide +kernel) (by decide +kernel)
      · exact goT (by decide +kernel) (int_ok G.g) (by decide +kernel) (by decide +kernel)
      · exact goT (by decide +kernel) (str_ok G.g) (by decide +kernel) (by decide +kernel)
      · exact go (by decide +kernel) (sum_ok G.g hcalm) (by decide +kernel) (by decide +kernel)
      · exact go (by decide +kernel) (any_ok G.g hcalm) (by decide +kernel) (by decide +kernel)
      · exact go (by decide +kernel) (all_ok G.g hcalm) (by decide +kernel) (by decide +kernel)
      · exact go (by decide +kernel) (sorted_ok G.g) (by decide +kernel) (by decide +kernel)
      · exact goT (by decide +kernel) (list_ok G.g hcalm) (by decide +kernel) (by decide +kernel)
      · exact goT (by decide +kernel) (tuple_ok G.g) (by decide +kernel) (by decide +kernel)
    · cases h1
  · cases h
end
end Cw

set_option Elab.async false
set_option linter.all false
set_option maxRecDepth 100000
set_option maxHeartbeats 2000000
namespace Cw
open PySem PySem.Spec PyProof.Rows L2
section
variable {m : Mm} {x : Ctx} {X : Cx} {W : WX}
/-! ### list(range(..)), tuple(range(..)) -/
theorem rgL_rel {al : List Addr} {H : Hp} (a b : Int) : RelUs m.KK al H (rgL a b) (rgV a b) := by
  unfold rgL rgV
  generalize List.range (b - a).toNat = l
  induction l with
  | nil => exact rfl
  | cons i l ih => exact ⟨_, _, rfl, rfl, ih⟩
theorem rgArgs_of {us : List U} {a b : Int} (e : rgArgs us = some (a, b)) : (us = [.int b] ∧ a = 0 ∨ us = [.int a, .int b]) ∧ RgOk a b := by
  unfold rgArgs at e
  split at e
  · split at e
    · rename_i h
      cases e
      unfold rgI at h
      simp only [Bool.and_eq_true, decide_eq_true_eq] at h
      exact ⟨.inl ⟨rfl, rfl⟩, by unfold RgOk; simp only [LIM] at h; omega⟩
    · cases e
  · split at e
    · rename_i h
      cases e
      unfold rgI at h
      simp only [Bool.and_eq_true, decide_eq_true_eq] at h
      exact ⟨.inr rfl, by unfold RgOk; simp only [LIM] at h; omega⟩
    · cases e
  · cases e
/-- a range as an argument -/
def tRg (m : Mm) (W : WX) (es : CEs) : L2.St → Hp → (Int → Int → Hp → Prop) → Prop := fun σ H Q => tA m W es σ H fun vs H1 => (∃ b, vs = [.int b] ∧ Q 0 b H1) ∨ ∃ a b, vs = [.int a, .int b] ∧ Q a b H1
theorem prg_mono {e : Expr} {t t' : L2.St → Hp → (Int → Int → Hp → Prop) → Prop} (h : PRg X e t) (i : ∀ σ H Q, t' σ H Q → t σ H Q) : PRg X e t' := fun pins s σ H Q I q => h pins s σ H Q I (i σ H Q q)
theorem tst_nil {es : CEs} {l : List Expr} (h : chEs x es l = true) : (l = [] → es = .nil) ∧ (es = .nil → l = []) := by
  cases es with
  | nil => unfold chEs at h; split at h <;> simp_all
  | cons c cs => unfold chEs at h; split at h <;> simp_all
theorem es_one {es : CEs} {e0 : Expr} (h : chEs x es [e0] = true) : ∃ c, es = .cons c .nil ∧ chE x c e0 = true ∧ isStar e0 = false := by
  cases es with
  | nil => unfold chEs at h; cases h
  | cons c cs =>
    unfold chEs at h
    simp only [Bool.and_eq_true] at h
    cases cs with
    | nil => exact ⟨c, rfl, h.1.2, by simpa using h.1.1⟩
    | cons c' cs' => unfold chEs at h; exact absurd h.2 (by simp)
theorem es_two {es : CEs} {e0 e1 : Expr} (h : chEs x es [e0, e1] = true) : ∃ c d, es = .cons c (.cons d .nil) ∧ chE x c e0 = true ∧ isStar e0 = false ∧ chE x d e1 = true ∧ isStar e1 = false := by
  cases es with
  | nil => unfold chEs at h; cases h
  | cons c cs =>
    unfold chEs at h
    simp only [Bool.and_eq_true] at h
    obtain ⟨d, rfl, h1, h2⟩ := es_one h.2
    exact ⟨c, d, rfl, h.1.2, by simpa using h.1.1, h1, h2⟩
theorem rg_args {es : CEs} {σ : L2.St} {H : Hp} {al : List Addr} {env : Env} {st : Sto} {k : Int → Int → Sto → M U} {r : R U} {Q : VK} {T : Int → Int → Hp → Prop} (q1 : m.RH al H st) (q2 : m.RE al H env σ)
    (q3 : (evs m.C es env st).bind (fun us st => match rgArgs us with | some (a, b) => k a b st | none => none) = some r) (q4 : FinE m r al H Q (fun cl d H' => W cl d σ H'))
    (nx : ∀ a b st1 al1 H1, Ext al H al1 H1 → m.RH al1 H1 st1 → RgOk a b → k a b st1 = some r → FinE m r al1 H1 Q (fun cl d H' => W cl d σ H') → T a b H1) : tRg m W es σ H T := by
  refine tA_bind q1 q2 q3 q4 fun us st1 al1 H1 vs y h1 he1 r1 e1 f1 => ?_
  split at e1
  · rename_i a b e2
    obtain ⟨h3, h4⟩ := rgArgs_of e2
    rcases h3 with ⟨rfl, rfl⟩ | rfl
    · obtain ⟨v, rfl, hv⟩ := us1 r1
      obtain rfl := (show v = V.int b from hv)
      exact .inl ⟨b, rfl, nx _ _ _ _ _ y h1 h4 e1 f1⟩
    · obtain ⟨v, v', rfl, hv, hv'⟩ := us2 r1
      obtain rfl := (show v = V.int a from hv)
      obtain rfl := (show v' = V.int b from hv')
      exact .inr ⟨a, b, rfl, nx _ _ _ _ _ y h1 h4 e1 f1⟩
  · cases e1
theorem tA_one {c : CE} {σ : L2.St} {H : Hp} {T : List V → Hp → Prop} (h : tA m W (.cons c .nil) σ H T) : tE m W c σ H fun v H1 => T [v] H1 := by
  obtain ⟨al, env, st, r, q1, q2, q3, q4⟩ := h
  rw [evs] at q3
  refine tE_bind q1 q2 q3 q4 fun u1 st1 al1 H1 v1 y1 h1 he1 r1 e1 f1 => ?_
  rw [evs] at e1
  cases e1
  exact f1 al1 H1 _ Ext.refl h1 (.cons r1 rfl)
theorem tA_two {c d : CE} {σ : L2.St} {H : Hp} {T : List V → Hp → Prop} (h : tA m W (.cons c (.cons d .nil)) σ H T) : tE m W c σ H fun v H1 => tE m W d σ H1 fun w H2 => T [v, w] H2 := by
  obtain ⟨al, env, st, r, q1, q2, q3, q4⟩ := h
  rw [evs] at q3
  refine tE_bind q1 q2 q3 q4 fun u1 st1 al1 H1 v1 y1 h1 he1 r1 e1 f1 => ?_
  rw [evs] at e1
  cases e2 : ev m.C d env st1 with
  | none => rw [e2] at e1; cases e1
  | some z =>
    rw [e2] at e1
    cases z with
    | exc c' st' => cases e1; exact ⟨al1, env, st1, _, h1, he1, e2, f1⟩
    | ok u2 st2 =>
      cases e1
      refine ⟨al1, env, st1, _, h1, he1, e2, fun al2 H2 w y2 h2 r2 => ?_⟩
      exact f1 al2 H2 _ y2 h2 (.cons (RelU.mono y2 u1 r1) (.cons r2 rfl))
theorem prg_of (G : Good m x X W) {n : Str} {l : List Expr} {p pos : Pos} {es : CEs} (hn : n = "range") (hg : Gl X n) (hl : l.length = 1 ∨ l.length = 2) (h : chEs x es l = true) (ic : ∀ c e, (∃ cs, es = .cons c cs) → chE x c e = true → Snd m X W c e)
    (id : ∀ c d e, es = .cons c (.cons d .nil) → chE x d e = true → Snd m X W d e) : PRg X (.Call (.Name n p) l [] pos) (tRg m W es) := by
  subst hn
  match l, hl with
  | [e0], _ =>
    obtain ⟨c, rfl, h1, h2⟩ := es_one h
    refine prg_mono (prg_1 hg (G.mgn (by decide +kernel)) (ic c e0 ⟨_, rfl⟩ h1).1 (star1 h2)) fun σ H Q q => ?_
    obtain ⟨al, env, st, r, q1, q2, q3, q4⟩ := (tA_one (show tA m W (.cons c .nil) σ H _ from q))
    refine ⟨al, env, st, r, q1, q2, q3, ?_⟩
    cases r with
    | exc c' st' => exact q4
    | ok u st' =>
      intro al' H' v y g ru
      rcases q4 al' H' v y g ru with ⟨b, e, k⟩ | ⟨a, b, e, k⟩
      · cases e; exact ⟨b, rfl, k⟩
      · cases e
  | [e0, e1], _ =>
    obtain ⟨c, d, rfl, h1, h2, h3, h4⟩ := es_two h
    refine prg_mono (prg_2 hg (G.mgn (by decide +kernel)) (ic c e0 ⟨_, rfl⟩ h1).1 (id c d e1 rfl h3).1 (star1 h2) (star1 h4) (by rw [star1 h4]; rfl)) fun σ H Q q => ?_
    obtain ⟨al, env, st, r, q1, q2, q3, q4⟩ := (tA_two (show tA m W (.cons c (.cons d .nil)) σ H _ from q))
    refine ⟨al, env, st, r, q1, q2, q3, ?_⟩
    cases r with
    | exc c' st' => exact q4
    | ok u st' =>
      intro al' H' v y g ru
      obtain ⟨al2, env2, st2, r2, k1, k2, k3, k4⟩ := q4 al' H' v y g ru
      refine ⟨al2, env2, st2, r2, k1, k2, k3, ?_⟩
      cases r2 with
      | exc c' st' => exact k4
      | ok u st' =>
        intro al' H' w y g ru
        rcases k4 al' H' w y g ru with ⟨b, e, k⟩ | ⟨a, b, e, k⟩
        · cases e
        · cases e; exact ⟨a, b, rfl, rfl, k⟩
theorem s_lrg (G : Good m x X W) {es : CEs} {e : Expr} (ic : ∀ c e, (∃ cs, es = .cons c cs) → chE x c e = true → Snd m X W c e) (id : ∀ c d e, es = .cons c (.cons d .nil) → chE x d e = true → Snd m X W d e) (h : chE x (.lrg es) e = true) : Snd m X W (.lrg es) e := by
  unfold chE at h
  split at h
  · rename_i n p n2 p2 l pos2 pos
    simp only [Bool.and_eq_true, decide_eq_true_eq] at h
    obtain ⟨⟨⟨⟨⟨⟨h0, h1⟩, h2⟩, h3⟩, h4⟩, h5⟩, h6⟩ := h
    have hcalm : X.calm = true := G.calm (by simpa using h0)
    subst h1
    obtain ⟨g1, g2⟩ := G.gl h3
    obtain ⟨g3, g4⟩ := G.gl h4
    refine snd_of rfl (PE.mono (pe_listRg hcalm g1 (G.mgn (by decide +kernel)) (prg_of G h2 g3 h5 h6 ic id) rfl) fun σ H Q q => ?_)
    obtain ⟨al, env, st, r, q1, q2, q3, q4⟩ := q
    rw [ev] at q3
    refine rg_args (k := fun a b st => some (.ok (.ref st.length) (st ++ [.lst (rgL a b)]))) q1 q2 q3 q4 fun a b st1 al1 H1 y1 h1 ok e1 f1 => ?_
    cases e1
    exact ⟨ok, fun p hp => want_lst h1 f1 (rgL_rel a b) hp⟩
  · cases h
theorem s_trg (G : Good m x X W) {es : CEs} {e : Expr} (ic : ∀ c e, (∃ cs, es = .cons c cs) → chE x c e = true → Snd m X W c e) (id : ∀ c d e, es = .cons c (.cons d .nil) → chE x d e = true → Snd m X W d e) (h : chE x (.trg es) e = true) : Snd m X W (.trg es) e := by
  unfold chE at h
  split at h
  · rename_i n p n2 p2 l pos2 pos
    simp only [Bool.and_eq_true, decide_eq_true_eq] at h
    obtain ⟨⟨⟨⟨⟨⟨h0, h1⟩, h2⟩, h3⟩, h4⟩, h5⟩, h6⟩ := h
    have hcalm : X.calm = true := G.calm (by simpa using h0)
    subst h1
    obtain ⟨g1, g2⟩ := G.gl h3
    obtain ⟨g3, g4⟩ := G.gl h4
    refine snd_of rfl (PE.mono (pe_tupRg hcalm g1 (G.mgn (by decide +kernel)) (prg_of G h2 g3 h5 h6 ic id) rfl) fun σ H Q q => ?_)
    obtain ⟨al, env, st, r, q1, q2, q3, q4⟩ := q
    rw [ev] at q3
    refine rg_args (k := fun a b st => some (.ok (.tup (rgL a b)) st)) q1 q2 q3 q4 fun a b st1 al1 H1 y1 h1 ok e1 f1 => ?_
    cases e1
    exact ⟨ok, fun p hp => want_tup h1 f1 (rgL_rel a b) hp⟩
  · cases h

/-! ### isinstance -/
def tyS : Ty → String
  | .int => "int"
  | .bool => "bool"
  | .str => "str"
  | .list => "list"
  | .tuple => "tuple"
  | .exc _ => ""
theorem isI_kit {al : List Addr} {H : Hp} {st : Sto} {u : U} {v : V} {t : Ty} {b : Bool} (h : m.RH al H st) (r : m.RU al H u v) (e : isIU u t st = some b) : ∃ ty, TyX X.K H v ty ∧ PySem.W.kitOne X.K ty (.type (tyS t)) = some b := by
  cases u with
  | non =>
    obtain rfl := (show v = _ from r)
    refine ⟨_, .base .non, ?_⟩
    cases t <;> first | (cases e; exact kit_ty (by decide +kernel)) | cases e
  | bl k =>
    obtain rfl := (show v = _ from r)
    refine ⟨_, .base (.bl k), ?_⟩
    cases t <;> first | (cases e; exact kit_ty (by decide +kernel)) | cases e
  | int k =>
    obtain rfl := (show v = _ from r)
    refine ⟨_, .base (.int k), ?_⟩
    cases t <;> first | (cases e; exact kit_ty (by decide +kernel)) | cases e
  | str k =>
    obtain rfl := (show v = _ from r)
    refine ⟨_, .base (.str k), ?_⟩
    cases t <;> first | (cases e; exact kit_ty (by decide +kernel)) | cases e
  | tup k =>
    obtain ⟨a, vs, rfl, h1, h2⟩ := r
    refine ⟨_, .base (.tup h1), ?_⟩
    cases t <;> first | (cases e; exact kit_ty (by decide +kernel)) | cases e
  | fl k => cases e
  | ref i =>
    unfold isIU at e
    simp only at e
    split at e
    · rename_i l e0
      obtain ⟨a, vs, rfl, h1, h2, h3⟩ := lst_of h r e0
      refine ⟨_, .base (.lst h2), ?_⟩
      cases t <;> first | (cases e; exact kit_ty (by decide +kernel)) | cases e
    · cases e
  | err k => cases e
theorem s_isI (G : Good m x X W) {a : CE} {t : Ty} {e : Expr} (ia : ∀ e, chE x a e = true → Snd m X W a e) (h : chE x (.isI a t) e = true) : Snd m X W (.isI a t) e := by
  unfold chE at h
  split at h
  · rename_i n p l n2 p2 pos
    simp only [Bool.and_eq_true, decide_eq_true_eq] at h
    obtain ⟨⟨⟨⟨⟨h1, h2⟩, h3⟩, h4⟩, h5⟩, h6⟩ := h
    subst h1
    obtain ⟨g1, g2⟩ := G.gl h2
    obtain ⟨g3, g4⟩ := G.gl h3
    have hs := star1 (env := X.env) (es := [Expr.Name n2 p2]) (by simpa using h5 : isStar l = false)
    have hty : PE X (.Name n2 p2) (tC (.ty (tyS t))) := by
      split at h4
      · rename_i y hy
        rw [decide_eq_true_eq] at h4
        cases t <;> first | (cases hy) | skip
        all_goals subst h4
        · exact pe_bltn g3 (G.mgn (by decide +kernel)) (u := .type "int") (by decide +kernel) rfl (by decide +kernel) g4
        · exact pe_bltn g3 (G.mgn (by decide +kernel)) (u := .type "bool") (by decide +kernel) rfl (by decide +kernel) g4
        · exact pe_bltn g3 (G.mgn (by decide +kernel)) (u := .type "str") (by decide +kernel) rfl (by decide +kernel) g4
        · exact pe_bltn g3 (G.mgn (by decide +kernel)) (u := .type "list") (by decide +kernel) rfl (by decide +kernel) g4
        · exact pe_bltn g3 (G.mgn (by decide +kernel)) (u := .type "tuple") (by decide +kernel) rfl (by decide +kernel) g4
      · cases h4
    refine snd_of rfl (PE.mono (pe_callB call_isi g1 (G.mgn (by decide +kernel)) (by decide +kernel) (pa_cons (ia l h6).1 (pa_cons hty pa_nil rfl) hs) (by decide +kernel) g2 hs rfl) fun σ H Q q => ?_)
    obtain ⟨al, env, st, r, q1, q2, q3, q4⟩ := q
    rw [ev] at q3
    refine tE_bind q1 q2 q3 q4 fun u1 st1 al1 H1 v1 y1 h1 he1 r1 e1 f1 => ?_
    split at e1
    · rename_i b e2
      cases e1
      obtain ⟨ty, k1, k2⟩ := isI_kit (X := X) h1 r1 e2
      exact ⟨v1, .ty (tyS t), ty, .type (tyS t), b, rfl, .ty _, k1, k2, f1 al1 H1 _ Ext.refl h1 rfl⟩
    · cases e1
  · cases h

/-! ### methods -/
theorem mthU_ok (t : Mth) : ∀ o us s c s', mthU t o us s ≠ some (.exc c s') := by
  intro o us s c s' e
  unfold mthU at e
  split at e
  · split at e
    · split at e
      all_goals first
        | cases e
        | (split at e <;> first
            | cases e
            | (split at e <;> first
                | cases e
                | (split at e <;> first | cases e | (split at e <;> cases e))))
    · cases e
  · cases e
theorem rcv_ty {al : List Addr} {H : Hp} {st : Sto} {u : U} {v : V} (h : m.RH al H st) (r : m.RU al H u v) (e : rcv u st = true) : tyV X.K "list" v H := by
  unfold rcv at e
  split at e
  · split at e
    · rename_i l e0
      obtain ⟨a, vs, rfl, h1, h2, h3⟩ := lst_of h r e0
      exact .inl ⟨rfl, _, SqL.of h2⟩
    · cases e
  · cases e
theorem s_mth (G : Good m x X W) {t : Mth} {o : CE} {es : CEs} {e : Expr} (io : ∀ e, chE x o e = true → Snd m X W o e) (ih : ∀ l, chEs x es l = true → PA X l (tA m W es)) (h : chE x (.mth t o es) e = true) : Snd m X W (.mth t o es) e := by
  unfold chE at h
  split at h
  · rename_i l n apos as cpos
    simp only [Bool.and_eq_true, decide_eq_true_eq] at h
    obtain ⟨⟨⟨⟨⟨h1, h2⟩, h3⟩, h4⟩, h5⟩, h6⟩ := h
    have hb : attributeBase l n X.env (eval l X.env) = eval l X.env := super_he (by simpa using h2)
    have go : ∀ {id : String} (slot : Slot "list" n id) (hty : typeOf (.builtin id) = pure (.type "method_descriptor")) (hm : MtR X id (rM m t)), Snd m X W (.mth t o es) (.Call (.Attribute l n apos) as [] cpos) := by
      intro id slot hty hm
      have hs := chEs_star h6 X.env
      cases as with
      | nil =>
        have hn := (tst_nil h6).1 rfl
        subst hn
        refine snd_of rfl (PE.mono (pe_bm0 PySem.F.plainAttrs_list slot hty hm (io l h5).1 hb h3) fun σ H Q q => ?_)
        obtain ⟨al, env, st, r, q1, q2, q3, q4⟩ := q
        rw [ev] at q3
        refine tE_bind q1 q2 q3 q4 fun u1 st1 al1 H1 v1 y1 h1 he1 r1 e1 f1 => ?_
        split at e1
        case isFalse => cases e1
        rw [evs] at e1
        obtain ⟨u, st', e3, w⟩ := fin_want (f := mthU t u1 [] st1) e1 f1 (fun c s => mthU_ok t _ _ _ c s)
        exact ⟨mth_ty h1 r1 e3, al1, st1, u1, [], u, st', h1, r1, rfl, e3, w⟩
      | cons e0 as =>
        have he := hs
        rw [List.map_cons] at he
        have hs' : starEach as X.env = as.map fun e => (false, eval e X.env) := by
          cases es with
          | nil => unfold chEs at h6; cases h6
          | cons c cs =>
            unfold chEs at h6
            simp only [Bool.and_eq_true] at h6
            exact chEs_star h6.2 X.env
        refine snd_of rfl (PE.mono (pe_bm PySem.F.plainAttrs_list slot hty hm (io l h5).1 (ih _ h6) hb (plain_all hs h4) h3 (by rw [he, hs']) (plain_any hs')) fun σ H Q q => ?_)
        obtain ⟨al, env, st, r, q1, q2, q3, q4⟩ := q
        rw [ev] at q3
        refine tE_bind q1 q2 q3 q4 fun u1 st1 al1 H1 v1 y1 h1 he1 r1 e1 f1 => ?_
        split at e1
        case isFalse => cases e1
        rename_i hr
        refine ⟨rcv_ty h1 r1 hr, tA_bind h1 he1 e1 f1 fun us st2 al2 H2 vs y2 h2 he2 r2 e2 f2 => ?_⟩
        obtain ⟨u, st', e3, w⟩ := fin_want e2 f2 (fun c s => mthU_ok t _ _ _ c s)
        exact ⟨al2, st2, u1, us, u, st', h2, RelU.mono y2 u1 r1, r2, e3, w⟩
    split at h1
    · rename_i pr hp
      rw [decide_eq_true_eq] at h1
      cases t <;> first | (cases hp) | skip
      all_goals subst h1
      · exact go PySem.F.slot_list_append PySem.F.type_list_append (append_ok G.g)
      · exact go PySem.F.slot_list_extend PySem.F.type_list_extend (extend_ok G.g)
      · exact go PySem.F.slot_list_pop PySem.F.type_list_pop (pop_ok G.g)
      · exact go PySem.F.slot_list_pop PySem.F.type_list_pop (popAt_ok G.g)
      · exact go PySem.F.slot_list_reverse PySem.F.type_list_reverse (reverse_ok G.g)
      · exact go PySem.F.slot_list_clear PySem.F.type_list_clear (clear_ok G.g)
    · cases h1
  · cases h
theorem s_isX (G : Good m x X W) {i : Nat} {c : Option Nat} {e : Expr} (h : chE x (.isX i c) e = true) : Snd m X W (.isX i c) e := by
  unfold chE at h
  split at h
  · rename_i n p n1 p1 n2 p2 pos
    simp only [Bool.and_eq_true, decide_eq_true_eq] at h
    obtain ⟨⟨⟨⟨⟨h1, h2⟩, h3⟩, h4⟩, h5⟩, h6⟩ := h
    subst h2
    obtain ⟨g1, g2⟩ := G.gl h3
    obtain ⟨g3, g4⟩ := G.gl h4
    obtain ⟨D, d1, d2, d3⟩ := G.hotc h1
    unfold varB at h5
    simp only [Bool.and_eq_true, decide_eq_true_eq] at h5
    obtain ⟨⟨⟨v1, v2⟩, v3⟩, v4⟩ := h5
    have pv : PE X (.Name n1 p1) (tVar i) := pe_var (i := i) (by rw [G.N]; exact v1) (G.vis v2) (by simpa using v3) (by simpa using v4)
    have hty : ∃ (cv : V) (cu : Value), PE X (.Name n2 p2) (tC cv) ∧ (∀ u, RelV cv u → u = cu) ∧ ∀ b, (match c with | some c => m.C.isx m.ek c | none => some true) = some b → PySem.W.kitOne X.K (.ref D) cu = some b := by
      cases c with
      | some c =>
        rw [decide_eq_true_eq] at h6
        obtain ⟨C, c1, c2⟩ := G.exf.at_ c n2 h6
        refine ⟨.ref C, .ref C, pe_glob g3 c1 rfl g4, fun u r => r, fun b hb => ?_⟩
        obtain ⟨_, q, _⟩ := G.exf.isx m.ek c b hb
        rw [G.g.hK, ← d1, ← c2]
        exact q
      | none =>
        rw [decide_eq_true_eq] at h6
        subst h6
        refine ⟨.ty "ValueError", .type "ValueError", pe_bltn g3 G.exf.ve (u := .type "ValueError") (by decide +kernel) rfl (by decide +kernel) g4, fun u r => r, fun b hb => ?_⟩
        cases hb
        exact d2
    obtain ⟨cv, cu, k1, k2, k3⟩ := hty
    refine snd_of rfl (PE.mono (pe_callB d3 g1 (G.mgn (by decide +kernel)) (by decide +kernel) (pa_cons pv (pa_cons k1 pa_nil rfl) rfl) (by decide +kernel) g2 rfl rfl) fun σ H Q q => ?_)
    obtain ⟨al, env, st, r, q1, q2, q3, q4⟩ := q
    rw [ev] at q3
    split at q3
    · rename_i k e1
      split at q3
      · rename_i b e2
        cases q3
        obtain ⟨v, e3, rv, rk⟩ := q2.2 i _ e1
        subst rv rk
        exact ⟨.ref m.ea, e3, cv, cu, b, rfl, k2, k3 b e2, q4 al H _ Ext.refl q1 rfl⟩
      · cases q3
    · cases q3
  · cases h
end
end Cw

set_option Elab.async false
set_option linter.all false
set_option maxRecDepth 100000
set_option maxHeartbeats 2000000
namespace Cw
open PySem PySem.Spec PyProof.Rows L2
section
variable {m : Mm} {x : Ctx} {X : Cx} {W : WX}
/-! ### what is walked -/
/-- J walks what src tells -/
def SrcOk (m : Mm) (al : List Addr) (H : Hp) (src : Src) (J : It) : Prop := ∀ j al2 H2 st2, Ext al H al2 H2 → m.RH al2 H2 st2 → match item src st2 j with
  | none => True
  | some none => J.stop j H2
  | some (some u) => J.go j H2 ∧ ∀ v H3, J.yld j H2 v H3 → Ext al2 H2 al2 H3 ∧ m.RH al2 H3 st2 ∧ m.RU al2 H3 u v
/-- what is wanted of a source -/
def FinI (m : Mm) (W : WX) (σ : L2.St) (R : It → Hp → Prop) (al : List Addr) (H : Hp) (r : Cw.R Src) : Prop := match r with
  | .ok src st' => ∀ al' H' J, Ext al H al' H' → m.RH al' H' st' → SrcOk m al' H' src J → R J H'
  | .exc c st' => ∀ al' H', Ext al H al' H' → m.RH al' H' st' → W (m.clv c) none σ H'
def tI (m : Mm) (W : WX) (it : CI) : TI := fun σ H R => ∃ al env st r, m.RH al H st ∧ m.RE al H env σ ∧ evI m.C it env st = some r ∧ FinI m W σ R al H r
theorem PI.mono {tg e : Expr} {t t' : TI} (h : PI X tg e t) (i : ∀ σ H Q, t' σ H Q → t σ H Q) : PI X tg e t' := ⟨fun pins s σ H Q I q => h.run pins s σ H Q I (i σ H Q q)⟩
theorem PI.or {tg e : Expr} {t t' : TI} (h : PI X tg e t) (h' : PI X tg e t') : PI X tg e (fun σ H Q => t σ H Q ∨ t' σ H Q) := ⟨fun pins s σ H Q I q => q.elim (h.run pins s σ H Q I) (h'.run pins s σ H Q I)⟩
theorem src_list {K : PySem.W.Frag} {al : List Addr} {H : Hp} {st : Sto} {a : Addr} {vs : List V} {l : List U} {j : Nat} (h : m.RH al H st) (hq : SqL K H a vs) (r : m.RUs al H l vs) : match l[j]? with
    | none => (Itl K a).stop j H
    | some u => (Itl K a).go j H ∧ ∀ v H3, (Itl K a).yld j H v H3 → Ext al H al H3 ∧ m.RH al H3 st ∧ m.RU al H3 u v := by
  cases e : l[j]? with
  | none =>
    have := List.getElem?_eq_none_iff.mp e
    exact ⟨vs, hq, by rw [← r.len]; exact this⟩
  | some u =>
    obtain ⟨v, f1, f2⟩ := r.get e
    refine ⟨⟨vs, v, hq, f1⟩, fun w H3 ⟨z1, z2⟩ => ?_⟩
    subst z1
    have := z2 vs hq
    rw [f1] at this
    cases this
    exact ⟨Ext.refl, h, f2⟩
theorem src_l (hK : X.K = m.K) {al : List Addr} {H : Hp} {i : Nat} {a : Addr} (ha : al[i]? = some a) : SrcOk m al H (.l i) (Itl X.K a) := by
  intro j al2 H2 st2 y h
  have h2 := y.get ha
  cases e0 : st2[i]? with
  | none => simp only [item, e0]
  | some o =>
    cases o with
    | lst l =>
      obtain ⟨b, vs, e1, e2, e3, e4⟩ := lst_of (v := .ref a) h ⟨a, rfl, h2⟩ e0
      cases e1
      have k := src_list (K := X.K) (j := j) h (SqL.of e3) e4
      simp only [item, e0]
      cases e : l[j]? with
      | none => rw [e] at k; exact k
      | some u => rw [e] at k; exact k
    | dk _ => simp only [item, e0]
    | dn _ => simp only [item, e0]
    | ins _ _ => simp only [item, e0]
theorem src_f (hK : X.K = m.K) {al : List Addr} {H : Hp} {us : List U} {a : Addr} {vs : List V} (h1 : Fz m.K H a vs) (h2 : m.RUs al H us vs) : SrcOk m al H (.t us) (Itl X.K a) := by
  intro j al2 H2 st2 y h
  have k := src_list (K := X.K) (j := j) h (show SqL X.K H2 a vs by rw [hK]; exact (h1.mono y).sq) (RelUs.mono y us h2)
  simp only [item]
  cases e : us[j]? with
  | none => rw [e] at k; exact k
  | some u => rw [e] at k; exact k
theorem src_t {al : List Addr} {H : Hp} {us : List U} {a : Addr} {vs : List V} (h1 : H a = some (.tup vs)) (h2 : m.RUs al H us vs) : SrcOk m al H (.t us) (Itt X.K a) := by
  intro j al2 H2 st2 y h
  have hq : SqT X.K H2 a vs := SqT.of (y.tups _ _ h1)
  have h3 := RelUs.mono y us h2
  simp only [item]
  cases e : us[j]? with
  | none =>
    have := List.getElem?_eq_none_iff.mp e
    exact ⟨vs, hq, by rw [← h3.len]; exact this⟩
  | some u =>
    obtain ⟨v, f1, f2⟩ := h3.get e
    refine ⟨⟨vs, v, hq, f1⟩, fun w H3 ⟨z1, z2⟩ => ?_⟩
    subst z1
    have := z2 vs hq
    rw [f1] at this
    cases this
    exact ⟨Ext.refl, h, f2⟩
theorem src_s {al : List Addr} {H : Hp} {z : Str} : SrcOk m al H (.s z) (Its z) := by
  intro j al2 H2 st2 y h
  simp only [item]
  cases e0 : z.cps[j]? with
  | none => exact Array.getElem?_eq_none_iff.mp e0
  | some c =>
    refine ⟨(Array.getElem?_eq_some_iff.mp e0).1, fun w H3 ⟨z1, c', z2, z3⟩ => ?_⟩
    subst z1
    rw [e0] at z2
    cases z2
    exact ⟨Ext.refl, h, z3⟩
theorem src_r {al : List Addr} {H : Hp} {lo : Int} {n : Nat} : SrcOk m al H (.r lo 1 n) (Itr lo n) := by
  intro j al2 H2 st2 y h
  simp only [item]
  by_cases e0 : j < n
  · rw [if_pos e0]
    refine ⟨e0, fun w H3 ⟨z1, z2⟩ => ?_⟩
    subst z1
    exact ⟨Ext.refl, h, by rw [z2, Int.mul_one]; rfl⟩
  · rw [if_neg e0]
    exact Nat.le_of_not_lt e0
theorem src_rc {al : List Addr} {H : Hp} {lo c : Int} {n : Nat} : SrcOk m al H (.r lo c n) (Itc lo c n) := by
  intro j al2 H2 st2 y h
  simp only [item]
  by_cases e0 : j < n
  · rw [if_pos e0]
    refine ⟨e0, fun w H3 ⟨z1, z2⟩ => ?_⟩
    subst z1
    exact ⟨Ext.refl, h, by rw [z2]; rfl⟩
  · rw [if_neg e0]
    exact Nat.le_of_not_lt e0
theorem src_en (hK : X.K = m.K) {al : List Addr} {H : Hp} {i : Nat} {a : Addr} (ha : al[i]? = some a) : SrcOk m al H (.en i) (Ite X.K a) := by
  intro j al2 H2 st2 y h
  have h2 := y.get ha
  cases e0 : st2[i]? with
  | none => simp only [item, e0]
  | some o =>
    cases o with
    | lst l =>
      obtain ⟨b, vs, e1, e2, e3, e4⟩ := lst_of (v := .ref a) h ⟨a, rfl, h2⟩ e0
      cases e1
      have hq : SqL X.K H2 a vs := SqL.of e3
      simp only [item, e0]
      cases e : l[j]? with
      | none =>
        have := List.getElem?_eq_none_iff.mp e
        exact ⟨vs, hq, by rw [← e4.len]; exact this⟩
      | some u0 =>
        obtain ⟨v, f1, f2⟩ := e4.get e
        refine ⟨⟨vs, v, hq, f1⟩, fun w H3 ⟨T, v', z1, z2, z3, z4⟩ => ?_⟩
        subst z1 z3
        have := z4 vs hq
        rw [f1] at this
        cases this
        exact ⟨ext_new z2, h.newT z2, T, _, rfl, upd_same, _, _, rfl, rfl, _, _, rfl, RelU.mono (ext_new z2) u0 f2, rfl⟩
    | dk _ => simp only [item, e0]
    | dn _ => simp only [item, e0]
    | ins _ _ => simp only [item, e0]
theorem src_rl (hK : X.K = m.K) {al : List Addr} {H : Hp} {i n : Nat} {a : Addr} (ha : al[i]? = some a) : SrcOk m al H (.rl i n) (Itv X.K a n) := by
  intro j al2 H2 st2 y h
  have h2 := y.get ha
  simp only [item]
  by_cases hj : j < n
  · rw [if_pos hj]
    cases e0 : st2[i]? with
    | none => trivial
    | some o =>
      cases o with
      | lst l =>
        obtain ⟨b, vs, e1, e2, e3, e4⟩ := lst_of (v := .ref a) h ⟨a, rfl, h2⟩ e0
        cases e1
        have hq : SqL X.K H2 a vs := SqL.of e3
        cases e : l[n - 1 - j]? with
        | none => simp only [e]
        | some u0 =>
          obtain ⟨v, f1, f2⟩ := e4.get e
          simp only [e]
          refine ⟨⟨hj, vs, v, hq, f1⟩, fun w H3 ⟨z1, z4⟩ => ?_⟩
          subst z1
          have := z4 vs hq
          rw [f1] at this
          cases this
          exact ⟨Ext.refl, h, f2⟩
      | dk _ => trivial
      | dn _ => trivial
      | ins _ _ => trivial
  · rw [if_neg hj]
    exact Nat.le_of_not_lt hj
/-- an iterable by its value -/
theorem tI_bind {a : CE} {f : U → Sto → M Src} {σ : L2.St} {H : Hp} {R : It → Hp → Prop} {T : V → Hp → Prop} {al : List Addr} {env : Env} {st : Sto} {r : Cw.R Src} (q1 : m.RH al H st) (q2 : m.RE al H env σ) (q3 : (ev m.C a env st).bind f = some r)
    (q4 : FinI m W σ R al H r)
    (hf : ∀ u s c s', f u s ≠ some (.exc c s'))
    (nx : ∀ u st1 al1 H1 v src st', ev m.C a env st = some (.ok u st1) → Ext al H al1 H1 → m.RH al1 H1 st1 → m.RU al1 H1 u v → f u st1 = some (.ok src st') → (∀ al' H' J, Ext al1 H1 al' H' → m.RH al' H' st' → SrcOk m al' H' src J → R J H') → T v H1) : tE m W a σ H T := by
  cases e : ev m.C a env st with
  | none => rw [e] at q3; cases q3
  | some z =>
    rw [e] at q3
    cases z with
    | exc c st' => cases q3; exact ⟨al, env, st, _, q1, q2, e, q4⟩
    | ok u st1 =>
      refine ⟨al, env, st, _, q1, q2, e, fun al1 H1 v y g ru => ?_⟩
      have q3' : f u st1 = some r := q3
      cases r with
      | exc c st' => exact absurd q3' (hf _ _ _ _)
      | ok src st' => exact nx u st1 al1 H1 v src st' e y g ru q3' fun al' H' J y' => q4 al' H' J (y.trans y')
theorem srcU_ok : ∀ u s c s', srcU u s ≠ some (.exc c s') := by
  intro u s c s' e
  unfold srcU at e
  repeat' split at e
  all_goals cases e
theorem enumU_ok : ∀ u s c s', enumU u s ≠ some (.exc c s') := by
  intro u s c s' e
  unfold enumU at e
  repeat' split at e
  all_goals cases e
theorem revU_ok : ∀ u s c s', revU u s ≠ some (.exc c s') := by
  intro u s c s' e
  unfold revU at e
  repeat' split at e
  all_goals cases e
theorem i_seq (G : Good m x X W) {a : CE} {tg e : Expr} (ia : ∀ e, chE x a e = true → Snd m X W a e) (h : chI x (.seq a) tg e = true) : PI X tg e (tI m W (.seq a)) := by
  unfold chI at h
  have p := (ia e h).1
  refine PI.mono (PI.or (pi_list p) (PI.or (pi_tup p) (pi_str p))) fun σ H R q => ?_
  obtain ⟨al, env, st, r, q1, q2, q3, q4⟩ := q
  rw [evI] at q3
  -- which of the three
  cases e0 : ev m.C a env st with
  | none => rw [e0] at q3; cases q3
  | some z =>
    cases z with
    | exc c st' =>
      rw [e0] at q3
      cases q3
      exact .inl ⟨al, env, st, _, q1, q2, e0, q4⟩
    | ok u st1 =>
      cases u with
      | tup us =>
        refine .inr (.inl (tI_bind q1 q2 q3 q4 srcU_ok fun u st2 al1 H1 v src st' e1 y g ru e2 k => ?_))
        rw [e0] at e1
        cases e1
        cases e2
        obtain ⟨a, vs, rfl, h1, h2⟩ := ru
        exact ⟨a, rfl, ⟨vs, SqT.of h1⟩, k al1 H1 _ Ext.refl g (src_t h1 h2)⟩
      | str z =>
        refine .inr (.inr (tI_bind q1 q2 q3 q4 srcU_ok fun u st2 al1 H1 v src st' e1 y g ru e2 k => ?_))
        rw [e0] at e1
        cases e1
        cases e2
        exact ⟨z, ru, k al1 H1 _ Ext.refl g src_s⟩
      | fl us =>
        refine .inl (tI_bind q1 q2 q3 q4 srcU_ok fun u st2 al1 H1 v src st' e1 y g ru e2 k => ?_)
        rw [e0] at e1
        cases e1
        cases e2
        obtain ⟨a, vs, rfl, h1, h2⟩ := ru
        exact ⟨a, rfl, ⟨vs, by rw [G.g.hK]; exact h1.sq⟩, k al1 H1 _ Ext.refl g (src_f G.g.hK h1 h2)⟩
      | ref i =>
        refine .inl (tI_bind q1 q2 q3 q4 srcU_ok fun u st2 al1 H1 v src st' e1 y g ru e2 k => ?_)
        rw [e0] at e1
        cases e1
        unfold srcU at e2
        simp only at e2
        split at e2
        · rename_i l f0
          cases e2
          obtain ⟨a, vs, rfl, h1, h2, h3⟩ := lst_of g ru f0
          exact ⟨a, rfl, ⟨vs, SqL.of h2⟩, k al1 H1 _ Ext.refl g (src_l G.g.hK h1)⟩
        · cases e2
      | non => rw [e0] at q3; cases q3
      | bl _ => rw [e0] at q3; cases q3
      | int _ => rw [e0] at q3; cases q3
      | err _ => rw [e0] at q3; cases q3
theorem i_enum (G : Good m x X W) {a : CE} {tg e : Expr} (ia : ∀ e, chE x a e = true → Snd m X W a e) (h : chI x (.enum a) tg e = true) : PI X tg e (tI m W (.enum a)) := by
  unfold chI at h
  split at h
  · rename_i n p l pos
    simp only [Bool.and_eq_true, decide_eq_true_eq] at h
    obtain ⟨⟨⟨h1, h2⟩, h3⟩, h4⟩ := h
    subst h1
    obtain ⟨g1, g2⟩ := G.gl h2
    have hs := star1 (env := X.env) (es := []) (by simpa using h3 : isStar l = false)
    refine PI.mono (pi_enum g1 (G.mgn (by decide +kernel)) (pa_cons (ia l h4).1 pa_nil hs) (by rw [hs]; rfl)) fun σ H R q => ?_
    obtain ⟨al, env, st, r, q1, q2, q3, q4⟩ := q
    rw [evI] at q3
    refine tI_bind q1 q2 q3 q4 enumU_ok fun u st2 al1 H1 v src st' e1 y g ru e2 k => ?_
    unfold enumU at e2
    split at e2
    · split at e2
      · rename_i l f0
        cases e2
        obtain ⟨a, vs, rfl, h1, h2, h3⟩ := lst_of g ru f0
        exact ⟨a, vs, rfl, SqL.of h2, k al1 H1 _ Ext.refl g (src_en G.g.hK h1)⟩
      · cases e2
    · cases e2
  · cases h
theorem i_rev (G : Good m x X W) {a : CE} {tg e : Expr} (ia : ∀ e, chE x a e = true → Snd m X W a e) (h : chI x (.rev a) tg e = true) : PI X tg e (tI m W (.rev a)) := by
  unfold chI at h
  split at h
  · rename_i n p l pos
    simp only [Bool.and_eq_true, decide_eq_true_eq] at h
    obtain ⟨⟨⟨h1, h2⟩, h3⟩, h4⟩ := h
    subst h1
    obtain ⟨g1, g2⟩ := G.gl h2
    have hs := star1 (env := X.env) (es := []) (by simpa using h3 : isStar l = false)
    refine PI.mono (pi_reversed g1 (G.mgn (by decide +kernel)) (pa_cons (ia l h4).1 pa_nil hs) (by rw [hs]; rfl)) fun σ H R q => ?_
    obtain ⟨al, env, st, r, q1, q2, q3, q4⟩ := q
    rw [evI] at q3
    refine tI_bind q1 q2 q3 q4 revU_ok fun u st2 al1 H1 v src st' e1 y g ru e2 k => ?_
    unfold revU at e2
    split at e2
    · split at e2
      · rename_i l f0
        cases e2
        obtain ⟨a, vs, rfl, h1, h2, h3⟩ := lst_of g ru f0
        refine ⟨a, vs, rfl, SqL.of h2, ?_⟩
        rw [← h3.len]
        exact k al1 H1 _ Ext.refl g (src_rl G.g.hK h1)
      · cases e2
    · cases e2
  · cases h
theorem rgI_of {i j : Int} (h : rgI i j = true) : -(2 ^ 62) ≤ i ∧ i < 2 ^ 62 ∧ -(2 ^ 62) ≤ j ∧ j < 2 ^ 62 := by
  unfold rgI at h
  exact of_decide_eq_true h
theorem FinI.mono {σ : L2.St} {R : It → Hp → Prop} {al al' : List Addr} {H H' : Hp} {r : Cw.R Src} (y : Ext al H al' H') (h : FinI m W σ R al H r) : FinI m W σ R al' H' r := by
  cases r with
  | ok src st => exact fun a b J y' => h a b J (y.trans y')
  | exc c st => exact fun a b y' => h a b (y.trans y')
theorem tI_step {a : CE} {f : U → Sto → M Src} {σ : L2.St} {H : Hp} {R : It → Hp → Prop} {T : V → Hp → Prop} {al : List Addr} {env : Env} {st : Sto} {r : Cw.R Src} (q1 : m.RH al H st) (q2 : m.RE al H env σ) (q3 : (ev m.C a env st).bind f = some r) (q4 : FinI m W σ R al H r)
    (nx : ∀ u st1 al1 H1 v, Ext al H al1 H1 → m.RH al1 H1 st1 → m.RE al1 H1 env σ → m.RU al1 H1 u v → f u st1 = some r → FinI m W σ R al1 H1 r → T v H1) : tE m W a σ H T := by
  cases e : ev m.C a env st with
  | none => rw [e] at q3; cases q3
  | some z =>
    rw [e] at q3
    cases z with
    | exc c st' => cases q3; exact ⟨al, env, st, _, q1, q2, e, q4⟩
    | ok u st1 => exact ⟨al, env, st, _, q1, q2, e, fun al1 H1 v y g ru => nx u st1 al1 H1 v y g (q2.mono y) ru q3 (q4.mono y)⟩
theorem i_rng1 (G : Good m x X W) {a : CE} {tg e : Expr} (ia : ∀ e, chE x a e = true → Snd m X W a e) (h : chI x (.rng1 a) tg e = true) : PI X tg e (tI m W (.rng1 a)) := by
  unfold chI at h
  split at h
  · rename_i n p a' pos
    simp only [Bool.and_eq_true, decide_eq_true_eq] at h
    obtain ⟨⟨⟨h1, h2⟩, h3⟩, h4⟩ := h
    subst h1
    obtain ⟨g1, g2⟩ := G.gl h2
    have hs := star1 (env := X.env) (es := []) (by simpa using h3 : isStar a' = false)
    refine PI.mono (pi_range1 g1 (G.mgn (by decide +kernel)) (pa_cons (ia a' h4).1 pa_nil hs) (by rw [hs]; rfl)) fun σ H R q => ?_
    obtain ⟨al, env, st, r, q1, q2, q3, q4⟩ := q
    rw [evI] at q3
    refine tI_step q1 q2 q3 q4 fun u st2 al1 H1 v y g he ru e2 k => ?_
    unfold rng1U at e2
    split at e2
    · split at e2
      · rename_i j hj
        cases e2
        have := rgI_of hj
        exact ⟨j, by rw [show v = V.int j from ru], this.2.2.1, this.2.2.2, k al1 H1 _ Ext.refl g src_r⟩
      · cases e2
    · cases e2
  · cases h
theorem i_rng2 (G : Good m x X W) {a b : CE} {tg e : Expr} (ia : ∀ e, chE x a e = true → Snd m X W a e) (ib : ∀ e, chE x b e = true → Snd m X W b e) (h : chI x (.rng2 a b) tg e = true) : PI X tg e (tI m W (.rng2 a b)) := by
  unfold chI at h
  split at h
  · rename_i n p a' b' pos
    simp only [Bool.and_eq_true, decide_eq_true_eq] at h
    obtain ⟨⟨⟨⟨⟨h1, h2⟩, h3⟩, h4⟩, h5⟩, h6⟩ := h
    subst h1
    obtain ⟨g1, g2⟩ := G.gl h2
    have hs := star1 (env := X.env) (es := [b']) (by simpa using h3 : isStar a' = false)
    have hs2 := star1 (env := X.env) (es := []) (by simpa using h4 : isStar b' = false)
    refine PI.mono (pi_range2 g1 (G.mgn (by decide +kernel)) (pa_cons (ia a' h5).1 (pa_cons (ib b' h6).1 pa_nil hs2) hs) (by rw [hs, hs2]; rfl) (by rw [hs2]; rfl)) fun σ H R q => ?_
    obtain ⟨al, env, st, r, q1, q2, q3, q4⟩ := q
    rw [evI] at q3
    refine tI_step q1 q2 q3 q4 fun u st2 al1 H1 v y g he ru e2 k => ?_
    refine tI_step g he e2 k fun u2 st3 al2 H2 v2 y2 g2 he2 ru2 e3 k2 => ?_
    unfold rng2U at e3
    split at e3
    · split at e3
      · rename_i i j hj
        cases e3
        exact ⟨i, j, by rw [show v = V.int i from ru, show v2 = V.int j from ru2], rgI_of hj, k2 al2 H2 _ Ext.refl g2 src_r⟩
      · cases e3
    · cases e3
  · cases h
theorem i_rng3 (G : Good m x X W) {a b c : CE} {tg e : Expr} (ia : ∀ e, chE x a e = true → Snd m X W a e) (ib : ∀ e, chE x b e = true → Snd m X W b e) (ic : ∀ e, chE x c e = true → Snd m X W c e) (h : chI x (.rng3 a b c) tg e = true) : PI X tg e (tI m W (.rng3 a b c)) := by
  unfold chI at h
  split at h
  · rename_i n p a' b' c' pos
    simp only [Bool.and_eq_true, decide_eq_true_eq] at h
    obtain ⟨⟨⟨⟨⟨⟨⟨h1, h2⟩, h3⟩, h4⟩, h5⟩, h6⟩, h7⟩, h8⟩ := h
    subst h1
    obtain ⟨g1, g2⟩ := G.gl h2
    have hs := star1 (env := X.env) (es := [b', c']) (by simpa using h3 : isStar a' = false)
    have hs2 := star1 (env := X.env) (es := [c']) (by simpa using h4 : isStar b' = false)
    have hs3 := star1 (env := X.env) (es := []) (by simpa using h5 : isStar c' = false)
    refine PI.mono (pi_range3 g1 (G.mgn (by decide +kernel)) (pa_cons (ia a' h6).1 (pa_cons (ib b' h7).1 (pa_cons (ic c' h8).1 pa_nil hs3) hs2) hs) hs (by rw [hs2, hs3]; rfl)) fun σ H R q => ?_
    obtain ⟨al, env, st, r, q1, q2, q3, q4⟩ := q
    rw [evI] at q3
    refine tI_step q1 q2 q3 q4 fun u st2 al1 H1 v y g he ru e2 k => ?_
    refine tI_step g he e2 k fun u2 st3 al2 H2 v2 y2 g2 he2 ru2 e3 k2 => ?_
    refine tI_step g2 he2 e3 k2 fun u3 st4 al3 H3 v3 y3 g3 he3 ru3 e4 k3 => ?_
    unfold rng3U at e4
    split at e4
    · split at e4
      · rename_i i j c hj
        cases e4
        simp only [Bool.and_eq_true, decide_eq_true_eq] at hj
        obtain ⟨hj, hc⟩ := hj
        subst hc
        have := rgI_of hj
        exact ⟨i, j, -1, _, by rw [show v = V.int i from ru, show v2 = V.int j from ru2, show v3 = V.int (-1) from ru3], RgC.neg this.1 this.2.1 this.2.2.1 this.2.2.2, k3 al3 H3 _ Ext.refl g3 src_rc⟩
      · cases e4
    · cases e4
  · cases h

/-! ### targets -/
def tG (m : Mm) (g : Tgt) : TG := fun v σ H Q => ∃ al env u st env', m.RE al H env σ ∧ m.RU al H u v ∧ setT g u st env = some env' ∧ ∀ σ', m.RE al H env' σ' → wipe σ' (ownT g) = wipe σ (ownT g) → Q σ' H
def tGs (m : Mm) (is : List Nat) : TGs := fun vs σ H Q => ∃ al env us env', m.RE al H env σ ∧ m.RUs al H us vs ∧ setVs is us env = some env' ∧ ∀ σ', m.RE al H env' σ' → wipe σ' is = wipe σ is → Q σ' H
theorem PG.mono {tg : Expr} {t t' : TG} (h : PG X tg t) (i : ∀ v σ H Q, t' v σ H Q → t v σ H Q) : PG X tg t' := ⟨fun pins s σ H v u Q I r q => h.run pins s σ H v u Q I r (i v σ H Q q)⟩
theorem PGs.mono {tg : List Expr} {t t' : TGs} (h : PGs X tg t) (i : ∀ v σ H Q, t' v σ H Q → t v σ H Q) : PGs X tg t' := ⟨fun pins s σ H v u Q I r q => h.run pins s σ H v u Q I r (i v σ H Q q)⟩
/-- a name that may be stored here -/
structure Stor (x : Ctx) (X : Cx) : Prop where
  N : X.N = x.N
  nd : x.N.Nodup
  sc : X.env.scope = x.sc
  fn : x.top = true → ∀ n, X.fn n = true
theorem Good.stor (G : Good m x X W) : Stor x X := ⟨G.N, G.nd, G.sc, G.fn⟩
theorem g_name (S : Stor x X) {i : Nat} {n : Str} {p : Pos} (h : stoB x i n = true) : PG X (.Name n p) (gName i) := by
  unfold stoB at h
  simp only [Bool.and_eq_true, decide_eq_true_eq, Bool.or_eq_true] at h
  obtain ⟨h1, h2⟩ := h
  have hl : locB x.sc n = true → X.env.scope.names.lookup n = some .local := fun z => by
    rw [S.sc]
    unfold locB at z
    split at z
    · assumption
    · cases z
  rcases h2 with h2 | ⟨h2, h3⟩
  · exact pg_name (by rw [S.N]; exact S.nd) (by rw [S.N]; exact h1) (.inl (hl h2)) (.inr (hl h2))
  · refine pg_name (by rw [S.N]; exact S.nd) (by rw [S.N]; exact h1) (.inr ?_) (.inl (S.fn h2 n))
    rw [S.sc]
    unfold celB at h3
    split at h3
    · assumption
    · cases h3
theorem wipe_set (σ : L2.St) (i : Nat) (v : Option V) : ∀ is : List Nat, (wipe (σ.set i v) is).set i none = (wipe σ is).set i none
  | [] => by
    show (σ.set i v).set i none = σ.set i none
    rw [List.set_set]
  | j :: is => by
    show ((wipe (σ.set i v) is).set j none).set i none = ((wipe σ is).set j none).set i none
    by_cases e : j = i
    · subst e
      rw [List.set_set, List.set_set]
      exact wipe_set σ j v is
    · rw [List.set_comm _ _ e, List.set_comm _ _ e, wipe_set σ i v is]
theorem g_names (S : Stor x X) : ∀ {is : List Nat} {es : List Expr}, is.length = es.length → ((is.zip es).all fun p => match p.2 with | .Name n _ => stoB x p.1 n | _ => false) = true → PGs X es (tGs m is) ∧ (assignEach es X.env).length = es.length ∧ (assignEach es X.env).findIdx? (·.1) = none
  | [], [], _, _ => ⟨PGs.mono pgs_nil (fun v σ H Q q => by
      obtain ⟨al, env, us, env', q1, q2, q3, q4⟩ := q
      cases us with
      | nil =>
        cases q3
        exact ⟨q2, q4 σ q1 rfl⟩
      | cons u us => cases q3), rfl, rfl⟩
  | i :: is, e :: es, hl, h => by
    simp only [List.zip_cons_cons, List.all_cons, Bool.and_eq_true] at h
    obtain ⟨h1, h2⟩ := h
    obtain ⟨k1, k2, k3⟩ := g_names S (by simpa using hl) h2
    cases e <;> first | (cases h1; done) | skip
    rename_i n p
    refine ⟨PGs.mono (pgs_cons (g_name S h1) k1) fun v σ H Q q => ?_, ?_, ?_⟩
    · obtain ⟨al, env, us, env', q1, q2, q3, q4⟩ := q
      cases us with
      | nil => cases q3
      | cons u us =>
        obtain ⟨w, ws, rfl, r1, r2⟩ := q2
        refine ⟨w, ws, rfl, al, env.set i (some u), us, env', q1.set i r1, r2, q3, fun σ' e1 e2 => q4 σ' e1 ?_⟩
        show (wipe σ' is).set i none = (wipe σ is).set i none
        rw [e2]
        exact wipe_set σ i (some w) is
    · show (assignEach es X.env).length + 1 = _
      rw [k2]
      rfl
    · show List.findIdx? _ ((false, _) :: assignEach es X.env) = none
      rw [List.findIdx?_cons]
      simp [k3]
  | [], _ :: _, hl, _ => by cases hl
  | _ :: _, [], hl, _ => by cases hl
theorem g_ok (S : Stor x X) (hc : x.hot = false → X.calm = true) {g : Tgt} {e : Expr} (h : chT x g e = true) : PG X e (tG m g) := by
  unfold chT at h
  split at h
  · rename_i i n p
    refine PG.mono (g_name S h) fun v σ H Q q => ?_
    obtain ⟨al, env, u, st, env', q1, q2, q3, q4⟩ := q
    cases q3
    refine q4 _ (q1.set i q2) ?_
    show (σ.set i (some v)).set i none = σ.set i none
    rw [List.set_set]
  · rename_i is es k p
    simp only [Bool.and_eq_true, decide_eq_true_eq] at h
    obtain ⟨k1, k2, k3⟩ := g_names (m := m) S h.1.2 h.2
    refine PG.mono (pg_tup (hc (by simpa using h.1.1)) k1 (n := is.length) (by rw [k2, h.1.2]) k3) fun v σ H Q q => ?_
    obtain ⟨al, env, u, st, env', q1, q2, q3, q4⟩ := q
    unfold setT at q3
    simp only at q3
    split at q3
    · rename_i us
      obtain ⟨a, vs, rfl, h1, h2⟩ := q2
      refine ⟨a, vs, rfl, SqT.of h1, ?_, al, env, us, env', q1, h2, q3, q4⟩
      have : ∀ (is : List Nat) (us : List U) (env env' : Env), setVs is us env = some env' → is.length = us.length := by
        intro is
        induction is with
        | nil => intro us env env' e; cases us with
          | nil => rfl
          | cons u us => cases e
        | cons i is ih => intro us env env' e; cases us with
          | nil => cases e
          | cons u us => rw [List.length_cons, List.length_cons, ih us _ _ e]
      rw [← h2.len, this is us env env' q3]
    · cases q3
  · cases h
end
end Cw

set_option Elab.async false
set_option linter.all false
set_option maxRecDepth 100000
set_option maxHeartbeats 2000000
namespace Cw
open PySem PySem.Spec PyProof.Rows L2
section
variable {m : Mm} {x : Ctx} {X : Cx} {W : WX}
/-! ### texts: split, join, partition -/
theorem strs_rel {al : List Addr} {H : Hp} : ∀ {l : List U} {is : List Str} {vs : List V}, strsU l = some is → RelUs m.KK al H l vs → vs = is.map V.str
  | [], is, vs, e, r => by
    cases e
    exact r
  | u :: l, is, vs, e, r => by
    cases u <;> first | (cases e; done) | skip
    rename_i s
    rw [strsU] at e
    split at e
    · rename_i ss e1
      cases e
      obtain ⟨v, t, rfl, h1, h2⟩ := r
      obtain rfl := (show v = V.str s from h1)
      rw [strs_rel e1 h2]
      rfl
    · cases e
theorem strs_to {al : List Addr} {H : Hp} : ∀ l : List Str, RelUs m.KK al H (l.map U.str) (l.map V.str)
  | [] => rfl
  | s :: l => ⟨.str s, _, rfl, rfl, strs_to l⟩
theorem isStr_of {u : U} (h : isStr u = true) : ∃ s, u = .str s := by
  cases u <;> first | exact ⟨_, rfl⟩ | cases h
theorem txU_ok (op : Tx) : ∀ u v s c s', txU op u v s ≠ some (.exc c s') := by
  intro u v s c s' e
  unfold txU at e
  repeat' split at e
  all_goals cases e
theorem s_tx (G : Good m x X W) {op : Tx} {a b : CE} {e : Expr} (ia : ∀ e, chE x a e = true → Snd m X W a e) (ib : ∀ e, chE x b e = true → Snd m X W b e) (h : chE x (.tx op a b) e = true) : Snd m X W (.tx op a b) e := by
  unfold chE at h
  split at h
  · rename_i l n apos l2 pos
    simp only [Bool.and_eq_true, decide_eq_true_eq] at h
    obtain ⟨⟨⟨⟨⟨h1, h2⟩, h3⟩, h4⟩, h5⟩, h6⟩ := h
    subst h1
    have hs := star1 (env := X.env) (es := []) (by simpa using h3 : isStar l2 = false)
    have hb : attributeBase l (txN op) X.env (eval l X.env) = eval l X.env := super_he (by simpa using h2)
    have rd : ∀ {σ : L2.St} {H : Hp} {Q : VK} {r : V → List V → Hp → VK → Prop}, (∀ al st u1 u2 u st' H s y, m.RH al H st → m.RU al H (.str s) (.str s) → u1 = .str s → m.RU al H u2 y → txU op u1 u2 st = some (.ok u st') → Want m al H u st' Q → r (.str s) [y] H Q) →
        tE m W (.tx op a b) σ H Q → tM1 r (tE m W a) (tE m W b) σ H Q := by
      rintro σ H Q r hr ⟨al, env, st, res, q1, q2, q3, q4⟩
      rw [ev] at q3
      refine tE_bind q1 q2 q3 q4 fun u1 st1 al1 H1 v1 y1 h1 he1 r1 e1 f1 => ?_
      split at e1
      · rename_i hi
        obtain ⟨s, rfl⟩ := isStr_of hi
        obtain rfl := (show v1 = V.str s from r1)
        refine ⟨⟨s, rfl⟩, tE_bind h1 he1 e1 f1 fun u2 st2 al2 H2 v2 y2 h2 he2 r2 e2 f2 => ?_⟩
        obtain ⟨u, st', e3, w⟩ := fin_want e2 f2 (fun c s' => txU_ok _ _ _ _ c s')
        exact hr al2 st2 _ u2 u st' H2 s v2 h2 rfl rfl r2 e3 w
      · cases e1
    cases op with
    | split =>
      refine snd_of rfl (PE.mono (pe_split (ia l h5).1 (ib l2 h6).1 hs hb h4) fun σ H Q q => rd (fun al st u1 u2 u st' H s y k1 _ k2 k3 k4 k5 => ?_) q)
      subst k2
      unfold txU at k4
      split at k4
      · rename_i a' b' e0 e1
        cases e1
        split at k4
        · rename_i hz
          cases k4
          obtain rfl := (show y = V.str b' from k3)
          exact ⟨_, b', rfl, rfl, hz.1, by rw [← lim_eq]; exact hz.2, fun p hp => want_lst k1 k5 (strs_to _) hp⟩
        · cases k4
      all_goals first | contradiction | cases k4
    | join =>
      refine snd_of rfl (PE.mono (pe_join (ia l h5).1 (ib l2 h6).1 hs hb h4) fun σ H Q q => rd (fun al st u1 u2 u st' H s y k1 _ k2 k3 k4 k5 => ?_) q)
      subst k2
      unfold txU at k4
      split at k4
      · contradiction
      · rename_i a' i e0 e1
        cases e1
        split at k4
        · rename_i ll e2
          split at k4
          · rename_i ys e3
            split at k4
            · rename_i hz
              cases k4
              obtain ⟨p, vs, rfl, p1, p2, p3⟩ := lst_of k1 k3 e2
              have ev := strs_rel e3 p3
              subst ev
              exact ⟨_, p, ys, rfl, rfl, .inl (SqL.of p2), hz, want_same k1 k5 rfl⟩
            · cases k4
          · cases k4
        · cases k4
      all_goals first | contradiction | cases k4
    | part =>
      refine snd_of rfl (PE.mono (pe_partition (ia l h5).1 (ib l2 h6).1 hs hb h4) fun σ H Q q => rd (fun al st u1 u2 u st' H s y k1 _ k2 k3 k4 k5 => ?_) q)
      subst k2
      unfold txU at k4
      split at k4
      · contradiction
      · contradiction
      · rename_i a' b' e0 e1
        cases e1
        split at k4
        · rename_i hz
          cases k4
          obtain rfl := (show y = V.str b' from k3)
          exact ⟨_, b', rfl, rfl, hz.1, by rw [← lim_eq]; exact hz.2, fun p hp => want_tup k1 k5 ⟨_, _, rfl, rfl, _, _, rfl, rfl, _, _, rfl, rfl, rfl⟩ hp⟩
        · cases k4
      all_goals first | contradiction | cases k4
  · cases h

/-! ### sorted from the greatest -/
theorem ints_to {al : List Addr} {H : Hp} : ∀ l : List Int, RelUs m.KK al H (l.map U.int) (l.map V.int)
  | [] => rfl
  | s :: l => ⟨.int s, _, rfl, rfl, ints_to l⟩
theorem insP_perm {α : Type} (le : α → α → Bool) (x : α) : ∀ l : List α, (ins le x l).Perm (x :: l)
  | [] => .refl _
  | y :: r => by
    rw [ins]
    split
    · exact .refl _
    · exact ((insP_perm le x r).cons y).trans (.swap x y r)
theorem isortP_perm {α : Type} (le : α → α → Bool) : ∀ l : List α, (isort le l).Perm l
  | [] => .refl _
  | x :: r => (insP_perm le x _).trans ((isortP_perm le r).cons x)
theorem ins_down (x : Int) : ∀ l : List Int, l.Pairwise (· ≥ ·) → (ins (fun a b => decide (b ≤ a)) x l).Pairwise (· ≥ ·)
  | [], _ => by simp [ins]
  | y :: r, h => by
    rw [ins]
    split
    · rename_i hz
      rw [decide_eq_true_eq] at hz
      refine List.pairwise_cons.mpr ⟨fun z hm => ?_, h⟩
      rcases List.mem_cons.mp hm with rfl | hm
      · exact hz
      · exact Int.le_trans ((List.pairwise_cons.mp h).1 z hm) hz
    · rename_i hz
      rw [decide_eq_true_eq] at hz
      refine List.pairwise_cons.mpr ⟨fun z hm => ?_, ins_down x r (List.pairwise_cons.mp h).2⟩
      rcases List.mem_cons.mp ((insP_perm _ x r).mem_iff.mp hm) with rfl | hm
      · show y ≥ z; omega
      · exact (List.pairwise_cons.mp h).1 z hm
theorem isort_down : ∀ l : List Int, (isort (fun a b => decide (b ≤ a)) l).Pairwise (· ≥ ·)
  | [] => .nil
  | x :: r => ins_down x _ (isort_down r)
theorem s_srev (G : Good m x X W) {a : CE} {e : Expr} (ia : ∀ e, chE x a e = true → Snd m X W a e) (h : chE x (.srev a) e = true) : Snd m X W (.srev a) e := by
  unfold chE at h
  split at h
  · rename_i n p l k p1 p2 p3 pos
    simp only [Bool.and_eq_true, decide_eq_true_eq] at h
    obtain ⟨⟨⟨⟨⟨h1, h2⟩, h3⟩, h4⟩, h5⟩, h6⟩ := h
    subst h1 h2
    obtain ⟨g1, g2⟩ := G.gl h4
    have hs := star1 (env := X.env) (es := []) (by simpa using h5 : isStar l = false)
    refine snd_of rfl (PE.mono (pe_callBK (cr_sortedRev (b := true)) g1 (G.mgn (by decide +kernel)) (by decide +kernel) (pa_cons (ia l h6).1 pa_nil hs) (pk_cons pe_bl pk_nil) (by decide +kernel) g2 (by rw [hs]; rfl) (by rw [hs]; rfl)) fun σ H Q q => ?_)
    obtain ⟨al, env, st, r, q1, q2, q3, q4⟩ := q
    rw [ev] at q3
    refine tE_bind q1 q2 q3 q4 fun u1 st1 al1 H1 v1 y1 h1 he1 r1 e1 f1 => ?_
    unfold srevU at e1
    split at e1
    · rename_i i
      split at e1
      · rename_i ll e2
        split at e1
        · rename_i is e3
          cases e1
          obtain ⟨p, vs, rfl, k1, k2, k3⟩ := lst_of h1 r1 e2
          have ev := ints_rel e3 k3
          subst ev
          refine ⟨p, is, rfl, rfl, SqL.of k2, fun ns' D hp ho hD => ?_⟩
          have e4 : ns' = isort (fun a b => decide (b ≤ a)) is := (hp.trans (isortP_perm _ is).symm).eq_of_pairwise (fun a b _ _ h1 h2 => Int.le_antisymm h2 h1) ho (isort_down is)
          rw [e4]
          exact want_lst h1 f1 (ints_to _) hD
        · cases e1
      · cases e1
    · cases e1
  · cases h

/-! ### a op b op c -/
theorem s_chain (G : Good m x X W) {o1 o2 : Cop} {a b c : CE} {e : Expr} (ia : ∀ e, chE x a e = true → Snd m X W a e) (ib : ∀ e, chE x b e = true → Snd m X W b e) (ic : ∀ e, chE x c e = true → Snd m X W c e) (h : chE x (.chain o1 o2 a b c) e = true) : Snd m X W (.chain o1 o2 a b c) e := by
  unfold chE at h
  split at h
  · rename_i l p1 p2 r1 r2 pos
    simp only [Bool.and_eq_true] at h
    obtain ⟨⟨⟨⟨⟨h1, h2⟩, h3⟩, h4⟩, h5⟩, h6⟩ := h
    have hm : lastMarks [p1, p2] [r1, r2] = false := (mark_he (by simpa using h3) : behindInMarks p2 r2 = false)
    have rd : ∀ {σ : L2.St} {H : Hp} {Q : VK} {al : List Addr} {env : Env} {st : Sto} {res : R U}, m.RH al H st → m.RE al H env σ → ev m.C (.chain o1 o2 a b c) env st = some res → FinE m res al H Q (fun cl d H' => W cl d σ H') → tChain (rCmp m o1) (rCmp m o2) (tE m W a) (tE m W b) (tE m W c) σ H Q := by
      intro σ H Q al env st res q1 q2 q3 q4
      rw [ev] at q3
      refine tE_bind q1 q2 q3 q4 fun u1 st1 al1 H1 v1 y1 g1 he1 ru1 e1 f1 => ?_
      refine tE_bind g1 he1 e1 f1 fun u2 st2 al2 H2 v2 y2 g2 he2 ru2 e2 f2 => ?_
      cases e3 : cmpU o1 u1 u2 st2 with
      | none => rw [e3] at e2; cases e2
      | some rr =>
        rw [e3] at e2
        cases rr with
        | exc cc s' => exact absurd e3 (cmpU_ok _ _ _ _ _ _)
        | ok u st3 =>
          obtain ⟨k, rfl, rfl⟩ := cmpU_bl e3
          refine ⟨al2, st3, u1, u2, k, g2, RelU.mono y2 _ ru1, ru2, e3, k, rfl, ?_⟩
          have e2 : (if k = true then (ev m.C c env st3).bind fun z st => cmpU o2 u2 z st else some (R.ok (.bl false) st3)) = some res := e2
          cases k with
          | true =>
            rw [if_pos rfl] at e2
            refine iteT (tE_bind g2 he2 e2 f2 fun u3 st4 al3 H3 v3 y3 g3 he3 ru3 e4 f3 => ?_)
            obtain ⟨u, st', e5, w⟩ := fin_want e4 f3 (fun c s => cmpU_ok _ _ _ _ c s)
            obtain ⟨kk, rfl, rfl⟩ := cmpU_bl e5
            exact ⟨al3, _, u2, u3, kk, g3, RelU.mono y3 _ ru2, ru3, e5, w al3 H3 _ Ext.refl g3 rfl⟩
          | false =>
            rw [if_neg Bool.false_ne_true] at e2
            cases e2
            exact iteF (f2 al2 H2 _ Ext.refl g2 rfl)
    refine ⟨PE.mono (pe_chain (cmp_op G.g h1) (cmp_op G.g h2) (ia l h4).1 (ib r1 h5).1 (ic r2 h6).1 hm) fun σ H Q q => ?_, PT.mono (pt_chain (cmp_op G.g h1) (cmp_op G.g h2) (ia l h4).1 (ib r1 h5).1 (ic r2 h6).1 hm) fun σ H Q q => ?_⟩
    · obtain ⟨al, env, st, r, q1, q2, q3, q4⟩ := q
      exact rd q1 q2 q3 q4
    · obtain ⟨al, env, st, r, q1, q2, q3, q4⟩ := tT_val q
      exact rd q1 q2 q3 q4
  · cases h
end
end Cw

set_option Elab.async false
set_option linter.all false
set_option maxRecDepth 100000
set_option maxHeartbeats 2000000
namespace Cw
open PySem PySem.Spec PyProof.Rows L2
section
variable {m : Mm} {x : Ctx} {X : Cx} {W : WX}
abbrev W0 : WX := fun _ _ _ _ => False
theorem wipe_unset (σ : L2.St) (i : Nat) : ∀ is : List Nat, (wipe (σ.set i none) is) = (wipe σ is).set i none
  | [] => rfl
  | j :: is => by
    show (wipe (σ.set i none) is).set j none = ((wipe σ is).set j none).set i none
    rw [wipe_unset σ i is]
    by_cases e : j = i
    · subst e; rw [List.set_set]
    · rw [List.set_comm _ _ (Ne.symm e)]
theorem wipe_wipe (σ : L2.St) : ∀ is : List Nat, wipe (wipe σ is) is = wipe σ is
  | [] => rfl
  | j :: is => by
    show (wipe ((wipe σ is).set j none) is).set j none = (wipe σ is).set j none
    rw [wipe_unset, List.set_set, wipe_wipe σ is]
theorem Good.inner (G : Good m x X W) (hh : x.hot = false) {scope : Scope} {own : List (Str × Nat)} (h : blkC x.N x.sc scope own = true) (s : Shared) (H : Hp) (C : Addr) (cl : List (Str × Addr)) (fp : List Addr) : Good m (Cw.inner x scope) (X.blk s H scope (compEnvC scope cl C X.env) fp) W0 := by
  refine ⟨⟨G.g.hP, G.g.hw, G.g.hK, G.g.un⟩, G.N, G.nd, ?_, ?_, (fun z => by cases z), G.calm, takesN takes0, fun b _ => pas_of takes0 b, G.blt, G.con, G.exf, (fun z => by rw [show (Cw.inner x scope).hot = x.hot from rfl, hh] at z; cases z), G.fns⟩
  · show relabel scope X.env = relS scope x.sc
    rw [← G.sc]
    rfl
  · show scope.kind = .function
    unfold blkC at h
    simp only [Bool.and_eq_true] at h
    have := h.1.1.1
    split at this
    · assumption
    · cases this
/-- a turn of a comprehension, as the interpreter has it -/
def turnE (C : Cl) (elt : CE) (g : Tgt) (env : Env) : U → Sto → M (Option U) := fun u st => match setT g u st (wipeE env (ownT g)) with
      | some env' => (ev C elt env' st).bind fun x st => some (.ok (some x) st)
      | none => none
def turnI (C : Cl) (elt : CE) (g : Tgt) (c : CE) (env : Env) : U → Sto → M (Option U) := fun u st => match setT g u st (wipeE env (ownT g)) with
      | some env' => (tst (ev C c env' st)).bind fun b st => if b = true then (ev C elt env' st).bind fun x st => some (.ok (some x) st) else some (.ok none st)
      | none => none
/-- one turn's reading; Nx: the next turn -/
def TurnOk (m : Mm) (g : Tgt) (tt : TT) (te : TE) (turn : Env → U → Sto → M (Option U)) : Prop := ∀ (al : List Addr) (env : Env) (σ : L2.St) (st : Sto) (H : Hp) (u : U) (v : V) (D : Addr) (Nx : Hp → Prop),
  m.RE al H (wipeE env (ownT g)) (wipe σ (ownT g)) → m.RH al H st → m.RU al H u v →
  (∃ o st', turn env u st = some (.ok o st') ∧ ∀ al' H', Ext al H al' H' → m.RH al' H' st' → match o with
    | none => Nx H'
    | some x => ∀ y, m.RU al' H' x y → ∃ acc, H' D = some (.lst acc) ∧ acc.length < sizeLine ∧ Nx (upd H' D (.lst (acc ++ [y])))) →
  tG m g v (wipe σ (ownT g)) H fun σ2 H2 => wipe σ2 (ownT g) = wipe σ (ownT g) ∧ tt σ2 H2 fun b H3 =>
    if b = true then te σ2 H3 fun y H4 => ∃ acc, H4 D = some (.lst acc) ∧ acc.length < sizeLine ∧ Nx (upd H4 D (.lst (acc ++ [y]))) else Nx H3
theorem turnE_ok (elt : CE) (g : Tgt) : TurnOk m g tYes (tE m W0 elt) (turnE m.C elt g) := by
  intro al env σ st H u v D Nx h1 h2 h3 ⟨o, st', e, k⟩
  unfold turnE at e
  split at e
  · rename_i env' e1
    refine ⟨al, _, u, st, env', h1, h3, e1, fun σ' r1 r2 => ⟨r2.trans (wipe_wipe _ _), ?_⟩⟩
    unfold tYes
    refine iteT ?_
    cases e2 : ev m.C elt env' st with
    | none => rw [e2] at e; cases e
    | some z =>
      rw [e2] at e
      cases z with
      | exc c s => cases e
      | ok y s =>
        cases e
        exact ⟨al, env', st, _, h2, r1, e2, fun al' H' w x' g' r' => k al' H' x' g' w r'⟩
  · cases e
theorem turnI_ok (elt : CE) (g : Tgt) (c : CE) : TurnOk m g (tT m W0 c) (tE m W0 elt) (turnI m.C elt g c) := by
  intro al env σ st H u v D Nx h1 h2 h3 ⟨o, st', e, k⟩
  unfold turnI at e
  split at e
  · rename_i env' e1
    refine ⟨al, _, u, st, env', h1, h3, e1, fun σ' r1 r2 => ⟨r2.trans (wipe_wipe _ _), ?_⟩⟩
    cases e2 : tst (ev m.C c env' st) with
    | none => rw [e2] at e; cases e
    | some z =>
      rw [e2] at e
      cases z with
      | exc c s => cases e
      | ok b s =>
        refine ⟨al, env', st, _, h2, r1, e2, fun al2 H2 b' y2 g2 eb => ?_⟩
        subst eb
        have e' : (if b = true then (ev m.C elt env' s).bind fun x st => some (.ok (some x) st) else some (.ok none s)) = some (R.ok o st') := e
        cases b with
        | true =>
          refine iteT ?_
          rw [if_pos rfl] at e'
          cases e3 : ev m.C elt env' s with
          | none => rw [e3] at e'; cases e'
          | some z =>
            rw [e3] at e'
            cases z with
            | exc c s => cases e'
            | ok y s' =>
              cases e'
              exact ⟨al2, env', s, _, g2, r1.mono y2, e3, fun al' H' w x' g' r' => k al' H' (y2.trans x') g' w r'⟩
        | false =>
          rw [if_neg Bool.false_ne_true] at e'
          cases e'
          exact iteF (k al2 H2 y2 g2)
  · cases e
theorem comp_read {it : CI} {g : Tgt} {tt : TT} {te : TE} {turn : Env → U → Sto → M (Option U)} (T : TurnOk m g tt te turn) {σ : L2.St} {H : Hp} {Q : VK} {al : List Addr} {env : Env} {st : Sto} {r : R U} (q1 : m.RH al H st) (q2 : m.RE al H env σ)
    (q3 : (evI m.C it env st).bind (fun src st => compL src st.length (turn env) m.C.fu 0 (st ++ [.lst []])) = some r) (q4 : FinE m r al H Q (fun cl d H' => W cl d σ H')) : tLc (tI m W it) (tG m g) tt te (ownT g) σ H Q := by
  cases e : evI m.C it env st with
  | none => rw [e] at q3; cases q3
  | some z =>
    rw [e] at q3
    cases z with
    | exc c st' => cases q3; exact ⟨al, env, st, _, q1, q2, e, q4⟩
    | ok src st1 =>
      refine ⟨al, env, st, _, q1, q2, e, fun al1 H1 J y g1 sok D hD => ?_⟩
      have e1 : compL src st1.length (turn env) m.C.fu 0 (st1 ++ [.lst []]) = some r := q3
      have y1 : Ext al1 H1 (al1 ++ [D]) (upd H1 D (.lst [])) := ext_newR hD
      have hD1 : (al1 ++ [D])[st1.length]? = some D := by
        rw [← g1.len, List.getElem?_append_right (Nat.le_refl _)]
        simp
      refine ⟨fun i n H2 => ∃ al2 st2, Ext (al1 ++ [D]) (upd H1 D (.lst [])) al2 H2 ∧ m.RH al2 H2 st2 ∧ compL src st1.length (turn env) n i st2 = some r, ⟨_, al1 ++ [D], st1 ++ [.lst []], Ext.refl, g1.new (o' := .lst []) hD ⟨[], upd_same, rfl⟩, e1⟩, ?_⟩
      rintro i n H2 ⟨al2, st2, y2, g2, e2⟩
      cases n with
      | zero => cases e2
      | succ n =>
        have k := sok i al2 H2 st2 (y1.trans y2) g2
        rw [compL] at e2
        cases e3 : item src st2 i with
        | none => rw [e3] at e2; cases e2
        | some o =>
          rw [e3] at e2 k
          cases o with
          | none =>
            cases e2
            exact .inl ⟨k, q4 al2 H2 _ ((y.trans y1).trans y2) g2 ⟨D, rfl, y2.get hD1⟩⟩
          | some u =>
            obtain ⟨k1, k2⟩ := k
            refine .inr ⟨k1, fun H' => ∃ al3 st3, Ext (al1 ++ [D]) (upd H1 D (.lst [])) al3 H' ∧ m.RH al3 H' st3 ∧ compL src st1.length (turn env) n (i + 1) st3 = some r, fun H' ⟨al3, st3, z1, z2, z3⟩ => ⟨n, Nat.lt_succ_self n, al3, st3, z1, z2, z3⟩, fun v H3 hy => ?_⟩
            obtain ⟨y3, g3, r3⟩ := k2 v H3 hy
            have yy : Ext al H al2 H3 := ((y.trans y1).trans y2).trans y3
            refine T al2 env σ st2 H3 u v D _ ((q2.mono yy).wipe _) g3 r3 ?_
            simp only at e2
            split at e2
            · rename_i st' e4
              exact ⟨none, st', e4, fun al4 H4 y4 g4 => ⟨al4, st', (y2.trans y3).trans y4, g4, e2⟩⟩
            · rename_i w st' e4
              refine ⟨some w, st', e4, fun al4 H4 y4 g4 v4 r4 => ?_⟩
              split at e2
              · rename_i acc e5
                split at e2
                · rename_i hz
                  have hD4 : al4[st1.length]? = some D := ((y2.trans y3).trans y4).get hD1
                  obtain ⟨a, vs, f1, f2, f3, f4⟩ := lst_of (v := .ref D) g4 ⟨D, rfl, hD4⟩ e5
                  cases f1
                  have yw : Ext al4 H4 al4 (upd H4 D (.lst (vs ++ [v4]))) := ext_upd hD4 (by rw [f3]; exact True.intro)
                  refine ⟨vs, f3, by rw [← lim_eq, ← f4.len]; exact hz, al4, _, ((y2.trans y3).trans y4).trans yw, (g4.write (o' := .lst (acc ++ [w])) hD4 ⟨_, upd_same, RelUs.mono yw _ (f4.append (.cons r4 rfl))⟩).1, e2⟩
                · cases e2
              · cases e2
            · cases e2
theorem own_map (x : Ctx) (g : Tgt) : (ownN x g).map (·.2) = ownT g := by
  unfold ownN
  rw [List.map_map]
  exact List.map_id _
/-- what the induction gives -/
abbrev AllE (m : Mm) (c : CE) : Prop := ∀ x X W, Good m x X W → ∀ e, chE x c e = true → Snd m X W c e
abbrev AllA (m : Mm) (c : CEs) : Prop := ∀ x X W, Good m x X W → ∀ e, chEs x c e = true → PA X e (tA m W c)
abbrev AllI (m : Mm) (c : CI) : Prop := ∀ x X W, Good m x X W → ∀ tg e, chI x c tg e = true → PI X tg e (tI m W c)
theorem lc_parts (G : Good m x X W) (hh : x.hot = false) {elt : CE} {g : Tgt} {it : CI} {tg iter : Expr} {scope : Scope} (ii : AllI m it) (h4 : blkC x.N x.sc scope (ownN x g) = true) (h5 : chT (Cw.inner x scope) g tg = true) (h6 : chI x it tg iter = true) :
    PI X tg iter (tI m W it) ∧ BlkOk X.N X.env.scope scope (ownN x g) ∧ (∀ (s : Shared) (H : Hp) (C : Addr) (cl : List (Str × Addr)) (fp : List Addr), PG (X.blk s H scope (compEnvC scope cl C X.env) fp) tg (tG m g)) :=
  ⟨ii x X W G tg iter h6, by rw [G.N, G.sc]; exact blkOk_by h4, fun s H C cl fp => g_ok (G.inner hh h4 s H C cl fp).stor G.calm h5⟩
theorem s_comp (G : Good m x X W) {elt : CE} {g : Tgt} {it : CI} {e : Expr} (ie : AllE m elt) (ii : AllI m it) (h : chE x (.comp elt g it) e = true) : Snd m X W (.comp elt g it) e := by
  unfold chE at h
  split at h
  · rename_i elt' tg iter ifs k scope pos
    simp only [Bool.and_eq_true, beq_iff_eq, List.isEmpty_iff] at h
    obtain ⟨⟨⟨⟨⟨⟨⟨h0, h1⟩, h2⟩, h3⟩, h4⟩, h5⟩, h6⟩, h7⟩ := h
    have hh : x.hot = false := by simpa using h0
    have hcalm : X.calm = true := G.calm hh
    subst h1 h2
    obtain ⟨p1, p2, p3⟩ := lc_parts (elt := elt) G hh ii h4 h5 h6
    refine snd_of rfl (PE.mono (pe_lc hcalm (by rw [G.N]; exact G.nd) p1 p2 p3 (fun _ _ _ _ _ => pts_nil) (fun s H C cl fp => (ie _ _ _ (G.inner hh h4 s H C cl fp) elt' h7).1) (set_he (by simpa using h3))) fun σ H Q q => ?_)
    rw [own_map]
    obtain ⟨al, env, st, r, q1, q2, q3, q4⟩ := q
    rw [ev] at q3
    exact comp_read (turnE_ok elt g) q1 q2 q3 q4
  · cases h
theorem s_compIf (G : Good m x X W) {elt c : CE} {g : Tgt} {it : CI} {e : Expr} (ie : AllE m elt) (ic : AllE m c) (ii : AllI m it) (h : chE x (.compIf elt g it c) e = true) : Snd m X W (.compIf elt g it c) e := by
  unfold chE at h
  split at h
  · rename_i elt' tg iter ifs k scope pos
    simp only [Bool.and_eq_true, beq_iff_eq] at h
    obtain ⟨⟨⟨⟨⟨⟨⟨h0, h1⟩, h3⟩, h4⟩, h5⟩, h6⟩, h8⟩, h7⟩ := h
    have hh : x.hot = false := by simpa using h0
    have hcalm : X.calm = true := G.calm hh
    subst h1
    split at h8
    · rename_i c'
      obtain ⟨p1, p2, p3⟩ := lc_parts (elt := elt) G hh ii h4 h5 h6
      refine snd_of rfl (PE.mono (pe_lc hcalm (by rw [G.N]; exact G.nd) p1 p2 p3 (fun s H C cl fp => pts_one (ic _ _ _ (G.inner hh h4 s H C cl fp) c' h8).2) (fun s H C cl fp => (ie _ _ _ (G.inner hh h4 s H C cl fp) elt' h7).1) (set_he (by simpa using h3))) fun σ H Q q => ?_)
      rw [own_map]
      obtain ⟨al, env, st, r, q1, q2, q3, q4⟩ := q
      rw [ev] at q3
      exact comp_read (turnI_ok elt g c) q1 q2 q3 q4
    · cases h8
  · cases h

/-! ### displays of dicts -/
def trs (m : Mm) (W : WX) : List Str → CEs → List (TE × TE)
  | k :: ks, .cons c cs => (tC (.str k), tE m W c) :: trs m W ks cs
  | _, _ => []
abbrev AllP (m : Mm) (es : CEs) : Prop := ∀ x X W, Good m x X W → ∀ (pos : Pos) (ks : List Str) (keys : List (Option Expr)) (vals : List Expr), chKs ks keys = true → keys.length = vals.length → chEs x es vals = true → PPs X pos keys vals (trs m W ks es) ∧ ks.length = lenEs es ∧ keys.all (·.isSome) = true
theorem p_pnil : AllP m .nil := by
  intro x X W G pos ks keys vals h1 h2 h3
  unfold chEs at h3
  split at h3
  · have : keys = [] := List.eq_nil_of_length_eq_zero h2
    subst this
    cases ks with
    | nil => exact ⟨pps_nil, rfl, rfl⟩
    | cons k ks => cases h1
  · cases h3
theorem p_pcons {c : CE} {cs : CEs} (ic : AllE m c) (is : AllP m cs) : AllP m (.cons c cs) := by
  intro x X W G pos ks keys vals h1 h2 h3
  unfold chEs at h3
  split at h3
  · rename_i v vals
    simp only [Bool.and_eq_true] at h3
    cases keys with
    | nil => cases h2
    | cons k0 keys =>
      unfold chKs at h1
      split at h1
      · rename_i e1; cases e1
      · rename_i k ks k' j p r e1
        cases e1
        simp only [Bool.and_eq_true, decide_eq_true_eq] at h1
        obtain ⟨rfl, h1⟩ := h1
        obtain ⟨q1, q2, q3⟩ := is x X W G pos ks keys vals h1 (by simpa using h2) h3.2
        exact ⟨pps_cons pe_str (ic x X W G v h3.1.2).1 q1, by rw [List.length_cons, q2]; rfl, by rw [List.all_cons, q3]; rfl⟩
      · cases h1
  · cases h3
theorem pairs_read {σ : L2.St} {env : Env} {E : XK} : ∀ (es : CEs) (ks : List Str) {H : Hp} {al : List Addr} {st : Sto} {r : R (List U)} {Q : List (V × V) → Hp → Prop}, ks.length = lenEs es → m.RH al H st → m.RE al H env σ → evs m.C es env st = some r →
    FinA m r al H (fun vs H' => Q ((ks.map V.str).zip vs) H') (fun cl d H' => W cl d σ H') → tPairs (trs m W ks es) σ H Q
  | .nil, ks, H, al, st, r, Q, hl, h1, h2, h3, h4 => by
    have : ks = [] := List.eq_nil_of_length_eq_zero hl
    subst this
    rw [evs] at h3
    cases h3
    exact h4 al H [] Ext.refl h1 rfl
  | .cons c cs, [], H, al, st, r, Q, hl, h1, h2, h3, h4 => by cases hl
  | .cons c cs, k :: ks, H, al, st, r, Q, hl, h1, h2, h3, h4 => by
    rw [evs] at h3
    refine tE_bind h1 h2 h3 h4 fun u st1 al1 H1 v y g he ru e f => ?_
    cases e2 : evs m.C cs env st1 with
    | none => rw [e2] at e; cases e
    | some r2 =>
      rw [e2] at e
      refine pairs_read (E := E) cs ks (by simpa [lenEs] using hl) g he e2 ?_
      cases r2 with
      | exc cc s2 =>
        cases e
        exact f
      | ok us s2 =>
        cases e
        exact fun al' H' vs y' g' rs => f al' H' (v :: vs) y' g' (.cons (RelU.mono y' u ru) rs)
theorem merge_rel {al : List Addr} {H : Hp} : ∀ (ks : List Str) (us : List U) (vs : List V) {acc : List (Key × U)} {acc' : List (Key × V)}, m.RUs al H us vs → Paired (PK m al H) acc acc' →
    Paired (PK m al H) ((ks.zip us).foldl (fun acc p => kput acc (.inr p.1) p.2) acc) (mergeK acc' ((ks.zip vs).map fun p => ((Sum.inr p.1 : Key), p.2)))
  | [], us, vs, acc, acc', r, h => h
  | k :: ks, [], vs, acc, acc', r, h => by
    obtain rfl := (show vs = [] from r)
    exact h
  | k :: ks, u :: us, vs, acc, acc', r, h => by
    obtain ⟨v, t, rfl, r1, r2⟩ := r
    exact merge_rel ks us t r2 (kput_K h (.inr k) r1)
theorem s_dsp (G : Good m x X W) {ks : List Str} {es : CEs} {e : Expr} (ip : AllP m es) (h : chE x (.dsp ks es) e = true) : Snd m X W (.dsp ks es) e := by
  unfold chE at h
  split at h
  · rename_i keys vals pos
    simp only [Bool.and_eq_true, decide_eq_true_eq] at h
    obtain ⟨⟨⟨⟨h1, h2⟩, h3⟩, h4⟩, h5⟩ := h
    obtain ⟨p1, p2, p3⟩ := ip x X W G pos ks keys vals h1 h3 h5
    have kl : ∀ (ks : List Str) (keys : List (Option Expr)), chKs ks keys = true → ks.length = keys.length := by
      intro ks
      induction ks with
      | nil => intro keys h; cases keys with
        | nil => rfl
        | cons a b => cases h
      | cons k ks ih => intro keys h; cases keys with
        | nil => cases h
        | cons a b =>
          unfold chKs at h
          split at h
          · rename_i e1; cases e1
          · rename_i e1 e2
            cases e1; cases e2
            rw [Bool.and_eq_true] at h
            rw [List.length_cons, List.length_cons, ih _ h.2]
          · cases h
    have hlen := kl ks keys h1
    have hne : keys ≠ [] := fun z => by
      rw [z] at hlen
      have : ks = [] := List.eq_nil_of_length_eq_zero hlen
      rw [this] at h2
      cases h2
    refine snd_of rfl (PE.mono (pe_disp p1 p3 h3 hne (by rw [← hlen]; exact h4)) fun σ H Q q p hp => ?_)
    obtain ⟨al, env, st, r, q1, q2, q3, q4⟩ := q
    rw [ev] at q3
    have y1 : Ext al H (al ++ [p]) (upd H p (.dK [])) := ext_newR hp
    have g1 : m.RH (al ++ [p]) (upd H p (.dK [])) (st ++ [.dk []]) := q1.new (o' := .dk []) hp ⟨[], upd_same, .nil⟩
    cases e1 : evs m.C es env (st ++ [.dk []]) with
    | none => rw [e1] at q3; cases q3
    | some r1 =>
      rw [e1] at q3
      refine pairs_read (E := fun cl d H' => W cl d σ H') es ks p2 g1 (q2.mono y1) e1 ?_
      cases r1 with
      | exc cc s' =>
        cases q3
        exact fun al' H' y g => q4 al' H' (y1.trans y) g
      | ok us st1 =>
        intro al' H' vs y g rs
        have q3 : dispU st.length ks us st1 = some r := q3
        unfold dispU at q3
        split at q3
        · rename_i e2
          split at q3
          · rename_i hz
            cases q3
            have hD : (al ++ [p])[st.length]? = some p := by
              rw [← q1.len, List.getElem?_append_right (Nat.le_refl _)]
              simp
            have hD' := y.get hD
            obtain ⟨kvs', k1, k2⟩ := g.obj _ p _ hD' e2
            cases k2
            refine ⟨k1, (ks.zip vs).map fun pr => ((Sum.inr pr.1 : Key), pr.2), ?_, ?_, ?_⟩
            · rw [List.map_map]
              have : ∀ (ks : List Str) (vs : List V), (ks.map V.str).zip vs = (ks.zip vs).map ((fun kv : Key × V => (kV kv.1, kv.2)) ∘ fun pr => ((Sum.inr pr.1 : Key), pr.2)) := by
                intro ks
                induction ks with
                | nil => intro vs; rfl
                | cons k ks ih => intro vs; cases vs with
                  | nil => rfl
                  | cons v vs => rw [List.map_cons, List.zip_cons_cons, List.zip_cons_cons, List.map_cons, ih]; rfl
              exact this ks vs
            · rw [List.length_map, List.length_zip]
              omega
            · have x2 : Ext al' H' al' (upd H' p (.dK (mergeK [] ((ks.zip vs).map fun pr => ((Sum.inr pr.1 : Key), pr.2))))) := ext_upd hD' (by rw [k1]; exact True.intro)
              refine q4 al' _ _ ((y1.trans y).trans x2) (g.write (o' := .dk ((ks.zip us).foldl (fun acc p => kput acc (.inr p.1) p.2) [])) hD' ⟨_, upd_same, ?_⟩).1 ⟨p, rfl, hD'⟩
              exact L2.Paired.mapP (merge_rel ks us vs rs .nil) fun a b z => ⟨z.1, RelU.mono x2 _ z.2⟩
          · cases q3
        · cases q3
  · cases h
/-! ### all expressions -/
mutual
theorem sndE (m : Mm) : ∀ c : CE, AllE m c
  | .var i => fun x X W G e h => s_var G h
  | .cst u => fun x X W G e h => s_cst G h
  | .glb n u => fun x X W G e h => s_glb G h
  | .tup es => fun x X W G e h => s_tup G (sndA m es x X W G) h
  | .lst es => fun x X W G e h => s_lst G (sndA m es x X W G) h
  | .dk0 => fun x X W G e h => s_dk0 G h
  | .dn0 => fun x X W G e h => s_dn0 G h
  | .dsp ks es => fun x X W G e h => s_dsp G (sndP m es) h
  | .bin op a b => fun x X W G e h => s_bin G (sndE m a x X W G) (sndE m b x X W G) h
  | .neg a => fun x X W G e h => s_neg G (sndE m a x X W G) h
  | .cmp op a b => fun x X W G e h => s_cmp G (sndE m a x X W G) (sndE m b x X W G) h
  | .chain o1 o2 a b c => fun x X W G e h => s_chain G (sndE m a x X W G) (sndE m b x X W G) (sndE m c x X W G) h
  | .tx op a b => fun x X W G e h => s_tx G (sndE m a x X W G) (sndE m b x X W G) h
  | .srev a => fun x X W G e h => s_srev G (sndE m a x X W G) h
  | .isN a => fun x X W G e h => s_isN G (sndE m a x X W G) h
  | .noN a => fun x X W G e h => s_noN G (sndE m a x X W G) h
  | .nt a => fun x X W G e h => s_nt G (sndE m a x X W G) h
  | .and_ a b => fun x X W G e h => s_and G (sndE m a x X W G) (sndE m b x X W G) h
  | .or_ a b => fun x X W G e h => s_or G (sndE m a x X W G) (sndE m b x X W G) h
  | .ife t a b => fun x X W G e h => s_ife G (sndE m t x X W G) (sndE m a x X W G) (sndE m b x X W G) h
  | .idx a i => fun x X W G e h => s_idx G (sndE m a x X W G) (sndE m i x X W G) h
  | .slA a => fun x X W G e h => s_slA G (sndE m a x X W G) h
  | .slL a b => fun x X W G e h => s_slL G (sndE m a x X W G) (sndE m b x X W G) h
  | .slU a b => fun x X W G e h => s_slU G (sndE m a x X W G) (sndE m b x X W G) h
  | .slB a b c => fun x X W G e h => s_slB G (sndE m a x X W G) (sndE m b x X W G) (sndE m c x X W G) h
  | .call f es => fun x X W G e h => s_call G (sndA m es x X W G) h
  | .blt b es => fun x X W G e h => s_blt G (sndA m es x X W G) h
  | .lrg .nil => fun x X W G e h => s_lrg G (fun c e ⟨cs, q⟩ => by cases q) (fun c d e q => by cases q) h
  | .lrg (.cons c .nil) => fun x X W G e h => s_lrg G (fun c' e ⟨cs, q⟩ z => by cases q; exact sndE m c x X W G e z) (fun c d e q => by cases q) h
  | .lrg (.cons c (.cons d ds)) => fun x X W G e h => s_lrg G (fun c' e ⟨cs, q⟩ z => by cases q; exact sndE m c x X W G e z) (fun c' d' e q z => by cases q; exact sndE m d x X W G e z) h
  | .trg .nil => fun x X W G e h => s_trg G (fun c e ⟨cs, q⟩ => by cases q) (fun c d e q => by cases q) h
  | .trg (.cons c .nil) => fun x X W G e h => s_trg G (fun c' e ⟨cs, q⟩ z => by cases q; exact sndE m c x X W G e z) (fun c d e q => by cases q) h
  | .trg (.cons c (.cons d ds)) => fun x X W G e h => s_trg G (fun c' e ⟨cs, q⟩ z => by cases q; exact sndE m c x X W G e z) (fun c' d' e q z => by cases q; exact sndE m d x X W G e z) h
  | .isI a t => fun x X W G e h => s_isI G (sndE m a x X W G) h
  | .isX i c => fun x X W G e h => s_isX G h
  | .mth t o es => fun x X W G e h => s_mth G (sndE m o x X W G) (sndA m es x X W G) h
  | .comp elt g it => fun x X W G e h => s_comp G (sndE m elt) (sndI m it) h
  | .compIf elt g it c => fun x X W G e h => s_compIf G (sndE m elt) (sndE m c) (sndI m it) h
theorem sndA (m : Mm) : ∀ c : CEs, AllA m c
  | .nil => fun x X W G e h => a_nil h
  | .cons c cs => fun x X W G e h => a_cons (sndE m c x X W G) (sndA m cs x X W G) h
theorem sndP (m : Mm) : ∀ c : CEs, AllP m c
  | .nil => p_pnil
  | .cons c cs => p_pcons (sndE m c) (sndP m cs)
theorem sndI (m : Mm) : ∀ c : CI, AllI m c
  | .seq a => fun x X W G tg e h => i_seq G (sndE m a x X W G) h
  | .rng1 a => fun x X W G tg e h => i_rng1 G (sndE m a x X W G) h
  | .rng2 a b => fun x X W G tg e h => i_rng2 G (sndE m a x X W G) (sndE m b x X W G) h
  | .rng3 a b c => fun x X W G tg e h => i_rng3 G (sndE m a x X W G) (sndE m b x X W G) (sndE m c x X W G) h
  | .enum a => fun x X W G tg e h => i_enum G (sndE m a x X W G) h
  | .rev a => fun x X W G tg e h => i_rev G (sndE m a x X W G) h
  | .keys _ => fun x X W G tg e h => by unfold chI at h; cases h
  | .items _ => fun x X W G tg e h => by unfold chI at h; cases h
end
end
end Cw

set_option Elab.async false
set_option linter.all false
set_option maxRecDepth 100000
set_option maxHeartbeats 2000000
/-! statements -/
namespace Cw
open PySem PySem.Spec PyProof.Rows L2
abbrev bmV : List Value := [.type "ValueError", .type "Exception", .type "BaseException", .type "object"]
section
variable {m : Mm} {x : Ctx} {X : Cx} {W : WX}
structure GoodS (m : Mm) (x : Ctx) (X : Cx) (W : WX) : Prop where
  e : Good m x X W
  po : PassesOwn (model X.prog X.w) X.A X.env X.xe
  tk : x.nc = false → L2.Takes X W
  poA : x.tr = false → ∀ hd : Option Value, PassesOwnAt (model X.prog X.w) (X.A.mark hd) X.A X.env X.xe
  stk : X.stack = X.env :: X.outer
  frm : X.env.frame = some X.env.locals
  exs : ∀ c n, x.excs[c]? = some n → ∃ C, X.mg n = some (.ref C) ∧ m.clv c = .ref C ∧ PySem.W.excIn X.K C bmV "ValueError.__new__" = true ∧ PySem.W.keepIn X.K (.ref C) = true ∧
    PySem.W.subIn X.K (.ref C) (.type "BaseException") = some true ∧ PySem.W.typeIn X.K (.ref C) = some (.type "type")
/-- what is wanted behind a statement's end r -/
def FinS (m : Mm) (W : WX) (D : Ends) (al : List Addr) (H : Hp) (r : RS) : Prop := match r with
  | .ok f env' st' => ∀ al' H' σ', Ext al H al' H' → m.RH al' H' st' → m.RE al' H' env' σ' → match f with
    | .nx => D.nx σ' H'
    | .br => D.bk σ' H'
    | .ct => D.ct σ' H'
    | .rt u => ∀ v, m.RU al' H' u v → D.rt v H'
  | .exc c env' st' => ∀ al' H' σ', Ext al H al' H' → m.RH al' H' st' → m.RE al' H' env' σ' → W (m.clv c) none σ' H'
def tS (m : Mm) (W : WX) (c : CS) : TS := fun D σ H => ∃ al env st r, m.RH al H st ∧ m.RE al H env σ ∧ exec m.C c env st = some r ∧ FinS m W D al H r
def tSs (m : Mm) (W : WX) (c : CSs) : TS := fun D σ H => ∃ al env st r, m.RH al H st ∧ m.RE al H env σ ∧ execs m.C c env st = some r ∧ FinS m W D al H r
theorem FinS.mono {D : Ends} {al al' : List Addr} {H H' : Hp} {r : RS} (y : Ext al H al' H') (h : FinS m W D al H r) : FinS m W D al' H' r := by
  cases r with
  | ok f env st => exact fun a b σ' y' => h a b σ' (y.trans y')
  | exc c env st => exact fun a b σ' y' => h a b σ' (y.trans y')
theorem PS.mono {s : Stmt} {t t' : TS} (h : PS X s t) (i : ∀ D σ H, t' D σ H → t D σ H) : PS X s t' := ⟨fun pins s σ H D I q => h.run pins s σ H D I (i D σ H q)⟩
theorem PSs.mono {s : List Stmt} {t t' : TS} (h : PSs X s t) (i : ∀ D σ H, t' D σ H → t D σ H) : PSs X s t' := ⟨fun pins s σ H D I q => h.run pins s σ H D I (i D σ H q)⟩
section
variable {σ : L2.St} {H : Hp} {al : List Addr} {env : Env} {st : Sto} {D : Ends} {r : RS}
theorem st_E {a : CE} {k : U → Sto → Option RS} {T : V → Hp → Prop} (h1 : m.RH al H st) (h2 : m.RE al H env σ) (h : (ev m.C a env st).st env k = some r) (hr : FinS m W D al H r)
    (nx : ∀ u st1 al1 H1 x, Ext al H al1 H1 → m.RH al1 H1 st1 → m.RE al1 H1 env σ → m.RU al1 H1 u x → k u st1 = some r → FinS m W D al1 H1 r → T x H1) : tE m W a σ H T := by
  cases e : ev m.C a env st with
  | none => rw [e] at h; cases h
  | some q =>
    rw [e] at h
    cases q with
    | exc c st' =>
      cases h
      exact ⟨al, env, st, _, h1, h2, e, fun al' H' y g => hr al' H' σ y g (h2.mono y)⟩
    | ok u st' => exact ⟨al, env, st, _, h1, h2, e, fun al1 H1 x y g ru => nx u st' al1 H1 x y g (h2.mono y) ru h (hr.mono y)⟩
theorem st_T {a : CE} {k : Bool → Sto → Option RS} {T : Bool → Hp → Prop} (h1 : m.RH al H st) (h2 : m.RE al H env σ) (h : (tst (ev m.C a env st)).st env k = some r) (hr : FinS m W D al H r)
    (nx : ∀ u st1 al1 H1, Ext al H al1 H1 → m.RH al1 H1 st1 → m.RE al1 H1 env σ → k u st1 = some r → FinS m W D al1 H1 r → T u H1) : tT m W a σ H T := by
  cases e : tst (ev m.C a env st) with
  | none => rw [e] at h; cases h
  | some q =>
    rw [e] at h
    cases q with
    | exc c st' =>
      cases h
      exact ⟨al, env, st, _, h1, h2, e, fun al' H' y g => hr al' H' σ y g (h2.mono y)⟩
    | ok u st' => exact ⟨al, env, st, _, h1, h2, e, fun al1 H1 x y g ru => by subst ru; exact nx u st' al1 H1 y g (h2.mono y) h (hr.mono y)⟩
end

theorem sw_cell {e : Expr} {n : Str} {p : Pos} {l : Nat} {env : PySem.Env} (h : env.kindOf n = some .cell) : swapsWith e (some (.Name n p)) l env = pure false := by
  have k : (env.kindOf n == some NameKind.local) = false := by rw [h]; rfl
  cases e <;> first
    | rfl
    | (show (pure (env.blockKind == ScopeKind.function && env.kindOf n == some NameKind.local && _ && _) : Sem Bool) = pure false
       rw [k, Bool.and_false, Bool.false_and, Bool.false_and])
theorem fin_var {i : Nat} {a : CE} : ∀ D σ H, tS m W (.asg (.var i) a) D σ H → tAsg (tE m W a) (gName i) D σ H := fun D σ H ⟨al, env, st, r, q1, q2, q3, q4⟩ => by
  rw [exec] at q3
  refine st_E q1 q2 q3 q4 fun u st1 al1 H1 v y g1 he ru e k => ?_
  cases e
  exact k al1 H1 _ Ext.refl g1 (he.set i ru)
theorem p_setComp (G : GoodS m x X W) {elt : CE} {g : Tgt} {it : CI} {i : Nat} {n : Str} {p' pos cpos : Pos} {elt' : Expr} {gs : List Comprehension} {scope : Scope} (h : chE x (.comp elt g it) (.ListComp elt' gs scope cpos) = true)
    (hi : X.N[i]? = some n) (hl : X.env.scope.names.lookup n = some .local) (hs : swapsWith (.ListComp elt' gs scope cpos) (some (.Name n p')) pos.line X.env = pure true) :
    PS X (.Assign [.Name n p'] (.ListComp elt' gs scope cpos) pos) (tS m W (.asg (.var i) (.comp elt g it))) := by
  unfold chE at h
  split at h
  · rename_i e1 tg iter ifs k sc ps e0
    cases e0
    simp only [Bool.and_eq_true, beq_iff_eq, List.isEmpty_iff] at h
    obtain ⟨⟨⟨⟨⟨⟨⟨h0, h1⟩, h2⟩, h3⟩, h4⟩, h5⟩, h6⟩, h7⟩ := h
    have hh : x.hot = false := by simpa using h0
    have hcalm : X.calm = true := G.e.calm hh
    subst h1 h2
    obtain ⟨p1, p2, p3⟩ := lc_parts (elt := elt) G.e hh (sndI m it) h4 h5 h6
    refine PS.mono (ps_setLc hcalm (by rw [G.e.N]; exact G.e.nd) hi hl hs p1 p2 p3 (fun _ _ _ _ _ => pts_nil) (fun s H C cl fp => (sndE m elt _ _ _ (G.e.inner hh h4 s H C cl fp) elt' h7).1) (set_he (by simpa using h3))) fun D σ H q => ?_
    obtain ⟨al, env, st, r, q1, q2, q3, q4⟩ := fin_var D σ H q
    rw [own_map]
    rw [ev] at q3
    exact comp_read (turnE_ok elt g) q1 q2 q3 q4
  · cases h
theorem p_setCompIf (G : GoodS m x X W) {elt c : CE} {g : Tgt} {it : CI} {i : Nat} {n : Str} {p' pos cpos : Pos} {elt' : Expr} {gs : List Comprehension} {scope : Scope} (h : chE x (.compIf elt g it c) (.ListComp elt' gs scope cpos) = true)
    (hi : X.N[i]? = some n) (hl : X.env.scope.names.lookup n = some .local) (hs : swapsWith (.ListComp elt' gs scope cpos) (some (.Name n p')) pos.line X.env = pure true) :
    PS X (.Assign [.Name n p'] (.ListComp elt' gs scope cpos) pos) (tS m W (.asg (.var i) (.compIf elt g it c))) := by
  unfold chE at h
  split at h
  · rename_i e1 tg iter ifs k sc ps e0
    cases e0
    simp only [Bool.and_eq_true, beq_iff_eq] at h
    obtain ⟨⟨⟨⟨⟨⟨⟨h0, h1⟩, h3⟩, h4⟩, h5⟩, h6⟩, h8⟩, h7⟩ := h
    have hh : x.hot = false := by simpa using h0
    have hcalm : X.calm = true := G.e.calm hh
    subst h1
    split at h8
    · rename_i c'
      obtain ⟨p1, p2, p3⟩ := lc_parts (elt := elt) G.e hh (sndI m it) h4 h5 h6
      refine PS.mono (ps_setLc hcalm (by rw [G.e.N]; exact G.e.nd) hi hl hs p1 p2 p3 (fun s H C cl fp => pts_one (sndE m c _ _ _ (G.e.inner hh h4 s H C cl fp) c' h8).2) (fun s H C cl fp => (sndE m elt _ _ _ (G.e.inner hh h4 s H C cl fp) elt' h7).1) (set_he (by simpa using h3))) fun D σ H q => ?_
      obtain ⟨al, env, st, r, q1, q2, q3, q4⟩ := fin_var D σ H q
      rw [own_map]
      rw [ev] at q3
      exact comp_read (turnI_ok elt g c) q1 q2 q3 q4
    · cases h8
  · cases h
theorem p_asg (G : GoodS m x X W) {g : Tgt} {a : CE} {s : Stmt} (h : chS x (.asg g a) s = true) : PS X s (tS m W (.asg g a)) := by
  unfold chS at h
  split at h
  · rename_i t v pos
    simp only [Bool.and_eq_true] at h
    obtain ⟨⟨h1, h2⟩, h3⟩ := h
    have pe := (sndE m a x X W G.e v h2).1
    cases g with
    | tup is =>
      have pg : PG X t (tG m (.tup is)) := g_ok G.e.stor G.e.calm h1
      simp only [Bool.and_eq_true] at h3
      have h4 : isComp v = false := by simpa using h3.1
      have h5 : isTupE v = false := by simpa using h3.2
      have fin : ∀ D σ H, tS m W (.asg (.tup is) a) D σ H → tAsg (tE m W a) (tG m (.tup is)) D σ H := fun D σ H ⟨al, env, st, r, q1, q2, q3, q4⟩ => by
        rw [exec] at q3
        refine st_E q1 q2 q3 q4 fun u st1 al1 H1 v y g1 he ru e k => ?_
        cases e1 : setT (.tup is) u st1 env with
        | none => rw [e1] at e; cases e
        | some env' =>
          rw [e1] at e
          cases e
          exact ⟨al1, env, u, st1, env', he, ru, e1, fun σ' r1 _ => k al1 H1 σ' Ext.refl g1 r1⟩
      have ht : ∃ es k p, t = .Tuple es k p := by
        unfold chT at h1
        cases t <;> first | exact ⟨_, _, _, rfl⟩ | cases h1
      obtain ⟨es, k, p, rfl⟩ := ht
      refine PS.mono (ps_asg pe pg (sw_he h4 : swapsWith v (some (.Tuple es k p)) pos.line X.env = pure false) ?_ rfl) fin
      cases v <;> first | rfl | cases h5
    | var i =>
      have ht : ∃ n p, t = .Name n p := by
        unfold chT at h1
        cases t <;> first | exact ⟨_, _, rfl⟩ | cases h1
      obtain ⟨n, p, rfl⟩ := ht
      have h1' : stoB x i n = true := h1
      have pg : PG X (.Name n p) (gName i) := g_name G.e.stor h1'
      simp only [Bool.or_eq_true] at h3
      cases hc : isComp v with
      | false => exact PS.mono (ps_asg pe pg (sw_he hc : swapsWith v (some (.Name n p)) pos.line X.env = pure false) rfl rfl) fin_var
      | true =>
        rcases h3 with (h3 | h3) | h3
        · rw [hc] at h3; cases h3
        · refine PS.mono (ps_asg pe pg (sw_cell ?_ : swapsWith v (some (.Name n p)) pos.line X.env = pure false) rfl rfl) fin_var
          unfold swC celB at h3
          simp only at h3
          show X.env.scope.names.lookup n = _
          rw [G.e.sc]
          split at h3
          · assumption
          · cases h3
        · unfold swB at h3
          split at h3
          · rename_i n' p' elt gs scope cpos e1
            cases e1
            simp only [Bool.and_eq_true] at h3
            obtain ⟨⟨h4, h5⟩, h6⟩ := h3
            have hl : X.env.scope.names.lookup n = some .local := by
              rw [G.e.sc]
              unfold locB at h4
              split at h4
              · assumption
              · cases h4
            have hs : swapsWith (.ListComp elt gs scope cpos) (some (.Name n p)) pos.line X.env = pure true := sw_true (by rw [G.e.sc]; exact G.e.fk) hl h5 (by simpa using h6)
            have hi : X.N[i]? = some n := by
              unfold stoB at h1'
              simp only [Bool.and_eq_true, decide_eq_true_eq] at h1'
              rw [G.e.N]; exact h1'.1
            cases a with
            | comp elt g it => exact p_setComp G h2 hi hl hs
            | compIf elt g it c => exact p_setCompIf G h2 hi hl hs
            | _ =>
              exfalso
              unfold chE at h2
              first
              | cases h2; done
              | (split at h2 <;> first | contradiction | cases h2)
          · cases h3
  · cases h

theorem p_ex (G : GoodS m x X W) {a : CE} {s : Stmt} (h : chS x (.ex a) s = true) : PS X s (tS m W (.ex a)) := by
  unfold chS at h
  split at h
  · rename_i v pos
    simp only [Bool.and_eq_true] at h
    refine PS.mono (ps_expr (sndE m a x X W G.e v h.2).1 (sw_he (by simpa using h.1))) fun D σ H ⟨al, env, st, r, q1, q2, q3, q4⟩ => ?_
    rw [exec] at q3
    refine st_E q1 q2 q3 q4 fun u st1 al1 H1 v y g1 he ru e k => ?_
    cases e
    exact k al1 H1 σ Ext.refl g1 he
  · cases h
theorem p_ret (G : GoodS m x X W) {a : CE} {s : Stmt} (h : chS x (.ret a) s = true) : PS X s (tS m W (.ret a)) := by
  unfold chS at h
  split at h
  · rename_i v pos
    refine PS.mono (ps_ret (sndE m a x X W G.e v h).1) fun D σ H ⟨al, env, st, r, q1, q2, q3, q4⟩ => ?_
    rw [exec] at q3
    refine st_E q1 q2 q3 q4 fun u st1 al1 H1 v y g1 he ru e k => ?_
    cases e
    exact k al1 H1 σ Ext.refl g1 he v ru
  · cases h
theorem p_ret0 {s : Stmt} (h : chS x .ret0 s = true) : PS X s (tS m W .ret0) := by
  unfold chS at h
  split at h
  · refine PS.mono ps_retN fun D σ H ⟨al, env, st, r, q1, q2, q3, q4⟩ => ?_
    rw [exec] at q3
    cases q3
    exact q4 al H σ Ext.refl q1 q2 .non rfl
  · cases h
theorem p_brk {s : Stmt} (h : chS x .brk s = true) : PS X s (tS m W .brk) := by
  unfold chS at h
  split at h
  · refine PS.mono ps_break fun D σ H ⟨al, env, st, r, q1, q2, q3, q4⟩ => ?_
    rw [exec] at q3
    cases q3
    exact q4 al H σ Ext.refl q1 q2
  · cases h
theorem p_cnt {s : Stmt} (h : chS x .cnt s = true) : PS X s (tS m W .cnt) := by
  unfold chS at h
  split at h
  · refine PS.mono ps_continue fun D σ H ⟨al, env, st, r, q1, q2, q3, q4⟩ => ?_
    rw [exec] at q3
    cases q3
    exact q4 al H σ Ext.refl q1 q2
  · cases h
theorem p_pass {s : Stmt} (h : chS x .pass s = true) : PS X s (tS m W .pass) := by
  unfold chS at h
  split at h
  · refine PS.mono ps_pass fun D σ H ⟨al, env, st, r, q1, q2, q3, q4⟩ => ?_
    rw [exec] at q3
    cases q3
    exact q4 al H σ Ext.refl q1 q2
  · cases h
theorem p_raise (G : GoodS m x X W) {c : Nat} {s : Stmt} (h : chS x (.raise c) s = true) : PS X s (tS m W (.raise c)) := by
  unfold chS at h
  split at h
  · rename_i n p mm j p2 pos pos'
    simp only [Bool.and_eq_true, decide_eq_true_eq] at h
    obtain ⟨C, f1, f2, f3, f4, f5, f6⟩ := G.exs c n h.1.2
    obtain ⟨g1, g2⟩ := G.e.gl h.2
    refine PS.mono (L2N.ps_raise (G.e.calm (by simpa using h.1.1)) G.e.tkN (L2N.pmk_own PySem.F.excBase_ValueError f3 f1 f4 (raises_own f5 f6) g1 g2)) fun D σ H ⟨al, env, st, r, q1, q2, q3, q4⟩ => ?_
    rw [exec] at q3
    cases q3
    have := q4 al H σ Ext.refl q1 q2
    rw [f2] at this
    exact this
  · cases h
theorem swap_some {n1 n2 : Str} {p1 p2 tp vp : Pos} {kt k2 : Nat} {a b : Expr} {env : PySem.Env} (hk : env.scope.kind = .function) (h1 : env.scope.names.lookup n1 = some .local) (h2 : env.scope.names.lookup n2 = some .local) (ha : isStar a = false) (hb : isStar b = false) (hn : (n1 == n2) = false) (hl : (p1.line == p2.line) = true)
    (hf : ([a, b] : List Expr).all (foldedForSure 8) = false) (hc : ([a, b] : List Expr).all (constantsAlone 8) = false) : swappedStores [.Tuple [.Name n1 p1, .Name n2 p2] kt tp] (.Tuple [a, b] k2 vp) env = pure (some [n1, n2]) := by
  have kb : env.blockKind = .function := by unfold PySem.Env.blockKind; rw [hk]; rfl
  have k1 : env.kindOf n1 = some .local := h1
  have k2 : env.kindOf n2 = some .local := h2
  have st : (([a, b] : List Expr).any fun | .Starred .. => true | _ => false) = false := by
    cases a <;> first | (cases ha; done) | (cases b <;> first | rfl | cases hb)
  have l2 : (p2.line == p1.line) = true := by rw [beq_iff_eq] at hl ⊢; exact hl.symm
  have n21 : (n2 == n1) = false := by
    rw [beq_eq_false_iff_ne] at hn ⊢
    exact fun z => hn z.symm
  unfold swappedStores
  simp only [List.length_cons, List.length_nil, kb, st, hf, hc, List.head?_cons, Option.map_some, Option.getD_some, Expr.pos, List.filterMap_cons, k1, k2, List.filterMap_nil, beq_self_eq_true, Bool.and_self, if_true, l2]
  have hd : ([n1, n2] : List Str).eraseDups.length = 2 := by
    simp [List.eraseDups_cons, n21]
  simp [hd]
  intro z
  exfalso
  rcases z with z | z
  · cases a <;> first | (cases ha; done) | cases z
  · cases b <;> first | (cases hb; done) | cases z
theorem p_par (G : GoodS m x X W) {i j : Nat} {a b : CE} {s : Stmt} (h : chS x (.par i j a b) s = true) : PS X s (tS m W (.par i j a b)) := by
  unfold chS at h
  split at h
  · rename_i n1 p1 n2 p2 kt tp a' b' k2 vp pos
    simp only [Bool.and_eq_true, decide_eq_true_eq] at h
    obtain ⟨⟨⟨⟨⟨⟨⟨⟨⟨⟨⟨⟨⟨h0, h1⟩, h2⟩, h3⟩, h4⟩, h5⟩, h6⟩, h7⟩, h8⟩, h9⟩, h10⟩, h11⟩, h12⟩, h13⟩ := h
    have loc : ∀ {n : Str}, locB x.sc n = true → X.env.scope.names.lookup n = some .local := fun {n} z => by
      rw [G.e.sc]
      unfold locB at z
      split at z
      · assumption
      · cases z
    have ix : ∀ {i : Nat} {n : Str}, stoB x i n = true → X.N[i]? = some n := fun {i n} z => by
      unfold stoB at z
      simp only [Bool.and_eq_true, decide_eq_true_eq] at z
      rw [G.e.N]; exact z.1
    have s6 : isStar a' = false := by simpa using h6
    have s7 : isStar b' = false := by simpa using h7
    have e6 := star1 (env := X.env) (es := [b']) s6
    have e7 := star1 (env := X.env) (es := []) s7
    refine PS.mono (ps_par (G.e.calm (by simpa using h0)) (by rw [G.e.N]; exact G.e.nd) (ix h2) (ix h3) h1 (loc h4) (loc h5) (pa_cons (sndE m a x X W G.e a' h8).1 (pa_cons (sndE m b x X W G.e b' h9).1 pa_nil e7) e6)
      (swap_some (by rw [G.e.sc]; exact G.e.fk) (loc h4) (loc h5) s6 s7 (by simpa using h10) h11 (by rw [Bool.not_eq_true'] at h12; exact h12) (by rw [Bool.not_eq_true'] at h13; exact h13)) rfl) fun D σ H ⟨al, env, st, r, q1, q2, q3, q4⟩ => ?_
    rw [exec] at q3
    refine st_E q1 q2 q3 q4 fun u st1 al1 H1 v y g1 he ru e k => ?_
    refine st_E g1 he e k fun u2 st2 al2 H2 v2 y2 g2 he2 ru2 e2 k2 => ?_
    cases e2
    exact ⟨v, v2, rfl, k2 al2 H2 _ Ext.refl g2 ((he2.set i (RelU.mono y2 u ru)).set j ru2)⟩
  · cases h
theorem p_sub (G : GoodS m x X W) {o i e : CE} {s : Stmt} (h : chS x (.sub o i e) s = true) : PS X s (tS m W (.sub o i e)) := by
  unfold chS at h
  split at h
  · rename_i o' i' p v pos
    simp only [Bool.and_eq_true] at h
    obtain ⟨⟨⟨⟨h1, h2⟩, h3⟩, h4⟩, h5⟩ := h
    have s1 : isSlice i' = false := by simpa using h1
    have s2 : isComp v = false := by simpa using h2
    refine PS.mono (ps_asg (sndE m e x X W G.e v h3).1 (pg_sub (sndE m o x X W G.e o' h4).1 (sndE m i x X W G.e i' h5).1 (set_ok G.e.g) (fun v => by cases i' <;> first | rfl | cases s1)) (sw_he s2 : swapsWith v (some (.Subscript o' i' p)) pos.line X.env = pure false) rfl rfl) fun D σ H ⟨al, env, st, r, q1, q2, q3, q4⟩ => ?_
    rw [exec] at q3
    refine st_E q1 q2 q3 q4 fun u st1 al1 H1 v y g1 he ru e k => ?_
    refine st_E g1 he e k fun u2 st2 al2 H2 v2 y2 g2 he2 ru2 e2 k2 => ?_
    refine st_E g2 he2 e2 k2 fun u3 st3 al3 H3 v3 y3 g3 he3 ru3 e3 k3 => ?_
    cases e4 : subU u2 u3 u st3 with
    | none => rw [e4] at e3; cases e3
    | some st4 =>
      rw [e4] at e3
      cases e3
      exact ⟨al3, st3, u2, u3, u, st4, g3, RelU.mono y3 _ ru2, ru3, RelU.mono (y2.trans y3) _ ru, e4, fun H4 y4 g4 => k3 al3 H4 σ y4 g4 (he3.mono y4)⟩
  · cases h
end
end Cw

set_option Elab.async false
set_option linter.all false
set_option maxRecDepth 100000
set_option maxHeartbeats 2000000
/-! ways and loops -/
namespace Cw
open PySem PySem.Spec PyProof.Rows L2
section
variable {m : Mm} {x : Ctx} {X : Cx} {W : WX}
theorem fin_body {D : Ends} {N : L2.St → Hp → Prop} {al : List Addr} {H : Hp} {r r' : RS} (hn : ∀ env st, r' = .ok .nx env st → ∀ al' H' σ', Ext al H al' H' → m.RH al' H' st → m.RE al' H' env σ' → N σ' H') (hc : ∀ env st, r' = .ok .ct env st → ∀ al' H' σ', Ext al H al' H' → m.RH al' H' st → m.RE al' H' env σ' → N σ' H')
    (hb : ∀ env st, r' = .ok .br env st → r = .ok .nx env st) (ho : (∀ env st, r' ≠ .ok .nx env st) → (∀ env st, r' ≠ .ok .ct env st) → (∀ env st, r' ≠ .ok .br env st) → r = r') (h : FinS m W D al H r) : FinS m W { D with nx := N, ct := N, bk := D.nx } al H r' := by
  cases r' with
  | exc c env st =>
    have e := ho (fun _ _ z => by cases z) (fun _ _ z => by cases z) (fun _ _ z => by cases z)
    subst e
    exact h
  | ok f env st =>
    cases f with
    | nx => exact hn env st rfl
    | ct => exact hc env st rfl
    | br =>
      have e := hb env st rfl
      subst e
      exact h
    | rt u =>
      have e := ho (fun _ _ z => by cases z) (fun _ _ z => by cases z) (fun _ _ z => by cases z)
      subst e
      exact h
theorem p_if (G : GoodS m x X W) {t : CE} {a b : CSs} {s : Stmt} (ia : ∀ l, chSs x a l = true → PSs X l (tSs m W a)) (ib : ∀ l, chSs x b l = true → PSs X l (tSs m W b)) (h : chS x (.iff t a b) s = true) : PS X s (tS m W (.iff t a b)) := by
  unfold chS at h
  split at h
  · rename_i t' a' b' pos
    simp only [Bool.and_eq_true] at h
    refine PS.mono (ps_if (sndE m t x X W G.e t' h.1.1).2 (ia a' h.1.2) (ib b' h.2)) fun D σ H ⟨al, env, st, r, q1, q2, q3, q4⟩ => ?_
    rw [exec] at q3
    refine st_T q1 q2 q3 q4 fun u st1 al1 H1 y g1 he e k => ?_
    cases u with
    | true =>
      rw [if_pos rfl] at e
      exact iteT ⟨al1, env, st1, r, g1, he, e, k⟩
    | false =>
      rw [if_neg Bool.false_ne_true] at e
      exact iteF ⟨al1, env, st1, r, g1, he, e, k⟩
  · cases h
theorem p_while (G : GoodS m x X W) {t : CE} {b : CSs} {s : Stmt} (ib : ∀ l, chSs x b l = true → PSs X l (tSs m W b)) (h : chS x (.whl t b) s = true) : PS X s (tS m W (.whl t b)) := by
  unfold chS at h
  split at h
  · rename_i t' b' pos
    simp only [Bool.and_eq_true] at h
    refine PS.mono (ps_while G.po (sndE m t x X W G.e t' h.1).2 (ib b' h.2)) fun D σ H ⟨al, env, st, r, q1, q2, q3, q4⟩ => ?_
    rw [exec] at q3
    refine ⟨fun n σ' H' => ∃ al' env' st', Ext al H al' H' ∧ m.RH al' H' st' ∧ m.RE al' H' env' σ' ∧ whlL (fun env st => tst (ev m.C t env st)) (fun env st => execs m.C b env st) n env' st' = some r, ⟨_, al, env, st, Ext.refl, q1, q2, q3⟩, ?_⟩
    rintro n σ1 H1 ⟨al1, env1, st1, y1, g1, he1, e1⟩
    cases n with
    | zero => cases e1
    | succ n =>
      rw [whlL] at e1
      refine st_T g1 he1 e1 (q4.mono y1) fun u st2 al2 H2 y2 g2 he2 e2 k2 => ?_
      cases u with
      | false =>
        rw [if_neg Bool.false_ne_true] at e2
        cases e2
        exact iteF (k2 al2 H2 σ1 Ext.refl g2 he2)
      | true =>
        rw [if_pos rfl] at e2
        refine iteT ?_
        have yy := y1.trans y2
        cases e3 : execs m.C b env1 st2 with
        | none => rw [e3] at e2; cases e2
        | some r' =>
          rw [e3] at e2
          refine ⟨fun σ' H' => ∃ al' env' st', Ext al H al' H' ∧ m.RH al' H' st' ∧ m.RE al' H' env' σ' ∧ whlL (fun env st => tst (ev m.C t env st)) (fun env st => execs m.C b env st) n env' st' = some r, fun σ' H' ⟨al', env', st', z1, z2, z3, z4⟩ => ⟨n, Nat.lt_succ_self n, al', env', st', z1, z2, z3, z4⟩, al2, env1, st2, r', g2, he2, e3, ?_⟩
          refine fin_body (r := r) (fun env3 st3 er al' H' σ' y3 g3 h3 => ?_) (fun env3 st3 er al' H' σ' y3 g3 h3 => ?_) (fun env3 st3 er => ?_) (fun n1 n2 n3 => ?_) k2
          · subst er
            exact ⟨al', env3, st3, yy.trans y3, g3, h3, e2⟩
          · subst er
            exact ⟨al', env3, st3, yy.trans y3, g3, h3, e2⟩
          · subst er
            cases e2
            rfl
          · cases r' with
            | exc c env3 st3 => cases e2; rfl
            | ok f env3 st3 =>
              cases f with
              | nx => exact absurd rfl (n1 env3 st3)
              | ct => exact absurd rfl (n2 env3 st3)
              | br => exact absurd rfl (n3 env3 st3)
              | rt u => cases e2; rfl
  · cases h
theorem p_for (G : GoodS m x X W) {g : Tgt} {it : CI} {b : CSs} {s : Stmt} (ib : ∀ l, chSs x b l = true → PSs X l (tSs m W b)) (h : chS x (.for_ g it b) s = true) : PS X s (tS m W (.for_ g it b)) := by
  unfold chS at h
  split at h
  · rename_i tg iter b' pos
    simp only [Bool.and_eq_true] at h
    obtain ⟨⟨⟨⟨h0, h1⟩, h2⟩, h3⟩, h4⟩ := h
    refine PS.mono (ps_for G.po (G.e.calm (by simpa using h0)) (sndI m it x X W G.e tg iter h3) (g_ok (m := m) G.e.stor G.e.calm h2) (ib b' h4) (set_he (by simpa using h1))) fun D σ H ⟨al, env, st, r, q1, q2, q3, q4⟩ => ?_
    rw [exec] at q3
    cases e : evI m.C it env st with
    | none => rw [e] at q3; cases q3
    | some z =>
      rw [e] at q3
      cases z with
      | exc c st' =>
        cases q3
        exact ⟨al, env, st, _, q1, q2, e, fun al' H' y g' => q4 al' H' σ y g' (q2.mono y)⟩
      | ok src st1 =>
        refine ⟨al, env, st, _, q1, q2, e, fun al1 H1 J y g1 sok => ?_⟩
        have e1 : forL src g (fun env st => execs m.C b env st) m.C.fu 0 env st1 = some r := q3
        refine ⟨fun i n σ' H' => ∃ al' env' st', Ext al1 H1 al' H' ∧ m.RH al' H' st' ∧ m.RE al' H' env' σ' ∧ forL src g (fun env st => execs m.C b env st) n i env' st' = some r, ⟨_, al1, env, st1, Ext.refl, g1, q2.mono y, e1⟩, ?_⟩
        rintro i n σ2 H2 ⟨al2, env2, st2, y2, g2, he2, e2⟩
        cases n with
        | zero => cases e2
        | succ n =>
          have k := sok i al2 H2 st2 y2 g2
          rw [forL] at e2
          cases e3 : item src st2 i with
          | none => rw [e3] at e2; cases e2
          | some o =>
            rw [e3] at e2 k
            cases o with
            | none =>
              cases e2
              exact .inl ⟨k, q4 al2 H2 σ2 (y.trans y2) g2 he2⟩
            | some u =>
              obtain ⟨k1, k2⟩ := k
              refine .inr ⟨k1, fun σ' H' => ∃ al' env' st', Ext al1 H1 al' H' ∧ m.RH al' H' st' ∧ m.RE al' H' env' σ' ∧ forL src g (fun env st => execs m.C b env st) n (i + 1) env' st' = some r, fun σ' H' ⟨al', env', st', z1, z2, z3, z4⟩ => ⟨n, Nat.lt_succ_self n, al', env', st', z1, z2, z3, z4⟩, fun v H3 hy => ?_⟩
              obtain ⟨y3, g3, r3⟩ := k2 v H3 hy
              cases e4 : setT g u st2 env2 with
              | none => simp only [e4] at e2; cases e2
              | some env3 =>
                simp only [e4] at e2
                refine ⟨al2, env2, u, st2, env3, he2.mono y3, r3, e4, fun σ3 h3 _ => ?_⟩
                cases e5 : execs m.C b env3 st2 with
                | none => rw [e5] at e2; cases e2
                | some r' =>
                  rw [e5] at e2
                  refine ⟨al2, env3, st2, r', g3, h3, e5, ?_⟩
                  have yy := y2.trans y3
                  refine fin_body (r := r) (fun env4 st4 er al' H' σ' y4 g4 h4 => ?_) (fun env4 st4 er al' H' σ' y4 g4 h4 => ?_) (fun env4 st4 er => ?_) (fun n1 n2 n3 => ?_) (q4.mono (y.trans yy))
                  · subst er
                    exact ⟨al', env4, st4, yy.trans y4, g4, h4, e2⟩
                  · subst er
                    exact ⟨al', env4, st4, yy.trans y4, g4, h4, e2⟩
                  · subst er
                    cases e2
                    rfl
                  · cases r' with
                    | exc c env4 st4 => cases e2; rfl
                    | ok f env4 st4 =>
                      cases f with
                      | nx => exact absurd rfl (n1 env4 st4)
                      | ct => exact absurd rfl (n2 env4 st4)
                      | br => exact absurd rfl (n3 env4 st4)
                      | rt u => cases e2; rfl
  · cases h
theorem p_nil {l : List Stmt} (h : chSs x .nil l = true) : PSs X l (tSs m W .nil) := by
  unfold chSs at h
  split at h
  · refine PSs.mono pss_nil fun D σ H ⟨al, env, st, r, q1, q2, q3, q4⟩ => ?_
    rw [execs] at q3
    cases q3
    exact q4 al H σ Ext.refl q1 q2
  · cases h
theorem p_cons {c : CS} {cs : CSs} {l : List Stmt} (ic : ∀ s, chS x c s = true → PS X s (tS m W c)) (is : ∀ l, chSs x cs l = true → PSs X l (tSs m W cs)) (h : chSs x (.cons c cs) l = true) : PSs X l (tSs m W (.cons c cs)) := by
  unfold chSs at h
  split at h
  · rename_i s l
    simp only [Bool.and_eq_true] at h
    refine PSs.mono (pss_cons (ic s h.1) (is l h.2)) fun D σ H ⟨al, env, st, r, q1, q2, q3, q4⟩ => ?_
    rw [execs] at q3
    cases e : exec m.C c env st with
    | none => rw [e] at q3; cases q3
    | some r' =>
      rw [e] at q3
      refine ⟨al, env, st, r', q1, q2, e, ?_⟩
      cases r' with
      | exc cc env' st' => cases q3; exact q4
      | ok f env' st' =>
        cases f with
        | nx => exact fun al' H' σ' y g h' => ⟨al', env', st', r, g, h', q3, q4.mono y⟩
        | br => cases q3; exact q4
        | ct => cases q3; exact q4
        | rt u => cases q3; exact q4
  · cases h

/-! ### values without an exception are told alike in a suite -/
section
variable {k k' : KK} {α : List Addr} {H : Hp}
mutual
theorem RelU.turn (e : k.K = k'.K) : ∀ (u : U) {v : V}, cleanU u = true → RelU k α H u v → RelU k' α H u v
  | .non, _, _, h => h
  | .bl _, _, _, h => h
  | .int _, _, _, h => h
  | .str _, _, _, h => h
  | .tup us, v, hf, h => by
    obtain ⟨a, vs, e1, h1, h2⟩ := h
    exact ⟨a, vs, e1, h1, RelUs.turn e us hf h2⟩
  | .fl us, v, hf, h => by
    obtain ⟨a, vs, e1, h1, h2⟩ := h
    exact ⟨a, vs, e1, by rw [← e]; exact h1, RelUs.turn e us hf h2⟩
  | .ref _, _, _, h => h
  | .err _, _, hf, _ => by cases hf
theorem RelUs.turn (e : k.K = k'.K) : ∀ (us : List U) {vs : List V}, cleanUs us = true → RelUs k α H us vs → RelUs k' α H us vs
  | [], _, _, h => h
  | u :: us, vs, hf, h => by
    obtain ⟨v, r, e1, h1, h2⟩ := h
    rw [cleanUs, Bool.and_eq_true] at hf
    exact ⟨v, r, e1, RelU.turn e u hf.1 h1, RelUs.turn e us hf.2 h2⟩
end
mutual
theorem clean_nk : ∀ n : NestedKey, cleanU (ukey n) = true
  | .none => rfl
  | .num _ => rfl
  | .text _ => rfl
  | .tup l => by
    show cleanUs (ukeys l) = true
    exact clean_nks l
theorem clean_nks : ∀ n : List NestedKey, cleanUs (ukeys n) = true
  | [] => rfl
  | n :: l => by
    rw [ukeys, cleanUs, clean_nk n, clean_nks l]
    rfl
end
theorem RelE.turn (e : k.K = k'.K) {env : Env} {σ : L2.St} (c : cleanE env = true) (h : RelE k α H env σ) : RelE k' α H env σ := by
  refine ⟨h.1, fun i u hi => ?_⟩
  obtain ⟨v, e1, r⟩ := h.2 i u hi
  unfold cleanE at c
  rw [List.all_eq_true] at c
  exact ⟨v, e1, RelU.turn e u (c _ (List.mem_of_getElem? hi)) r⟩
theorem paired_all {A B : Type} {P Q : A → B → Prop} {c : A → Bool} (i : ∀ a b, c a = true → P a b → Q a b) : ∀ {l : List A} {l' : List B}, l.all c = true → Paired P l l' → Paired Q l l'
  | _, _, _, .nil => .nil
  | a :: l, b :: l', h, .cons p r => by
    rw [List.all_cons, Bool.and_eq_true] at h
    exact .cons (i a b h.1 p) (paired_all i h.2 r)
theorem RelH.turn {P : Program} {w : World} {cls : Nat → Addr} (e : k.K = k'.K) {st : Sto} (c : cleanS st = true) (h : RelH P w k cls α H st) : RelH P w k' cls α H st := by
  refine ⟨h.len, h.nodup, fun i a o ha ho => ?_⟩
  have r := h.obj i a o ha ho
  unfold cleanS at c
  rw [List.all_eq_true] at c
  have co := c o (List.mem_of_getElem? ho)
  cases o with
  | lst us => obtain ⟨vs, e1, r⟩ := r; exact ⟨vs, e1, RelUs.turn e us co r⟩
  | dk us => obtain ⟨vs, e1, r⟩ := r; exact ⟨vs, e1, paired_all (fun p q z1 z2 => ⟨z2.1, RelU.turn e _ z1 z2.2⟩) co r⟩
  | dn us => obtain ⟨vs, e1, r⟩ := r; exact ⟨vs, e1, paired_all (fun p q z1 ⟨y1, y2, y3, v, y4, y5⟩ => ⟨y1, y2, RelU.turn e _ (clean_nk _) y3, v, y4, RelU.turn e _ z1 y5⟩) co r⟩
  | ins cc fs => obtain ⟨dx, vs, e1, r⟩ := r; exact ⟨dx, vs, e1, paired_all (fun p q z1 z2 => ⟨z2.1, RelU.turn e _ z1 z2.2⟩) co r⟩
end

/-! ### try -/
theorem loc_of {x : Ctx} {X : Cx} (h : X.env.scope = x.sc) {n : Str} (z : locB x.sc n = true) : X.env.scope.names.lookup n = some .local := by
  rw [h]
  unfold locB at z
  split at z
  · assumption
  · cases z
theorem p_tryA (G : GoodS m x X W) {b su : CSs} {c i : Nat} {s : Stmt} (ib : ∀ X' W', GoodS m { x with tr := true } X' W' → ∀ l, chSs { x with tr := true } b l = true → PSs X' l (tSs m W' b))
    (is : ∀ m' X' W', GoodS m' { x with hot := true, tr := true } X' W' → ∀ l, chSs { x with hot := true, tr := true } su l = true → PSs X' l (tSs m' W' su)) (h : chS x (.tryA b c i su) s = true) : PS X s (tS m W (.tryA b c i su)) := by
  unfold chS at h
  split at h
  · rename_i b' n np y s0 s' hp pos
    simp only [Bool.and_eq_true, decide_eq_true_eq] at h
    obtain ⟨⟨⟨⟨⟨⟨⟨⟨h1, h2⟩, h3⟩, h4⟩, h5⟩, h6⟩, h7⟩, h8⟩, h9⟩ := h
    have hnc : x.nc = false := by simpa using h2
    have tk := G.tk hnc
    obtain ⟨C, f1, f2⟩ := G.e.exf.at_ c n h4
    obtain ⟨g1, g2⟩ := G.e.gl h5
    let ts : Addr → Value → Option Addr → TS := fun a cls d D σ H => ∃ k bb, m.C.isx k c = some bb ∧ cls = m.clv k ∧ d = none ∧ tSs { m with ea := a, ek := k } W0 su D σ H
    refine PS.mono (ps_try_as (tb := fun W' => tSs m W' b) (ts := ts) (i := i) G.stk G.frm (by rw [G.e.N]; exact G.e.nd) (by rw [G.e.N]; exact h6) (loc_of G.e.sc h7) ⟨g1, g2, .inl f1⟩ tk (fun W' pn xe tk' po => ?_) (fun a oe cls d pn hz hf => ⟨fun pins s σ H D I q => ?_⟩)) fun D σ H ⟨al, env, st, r, q1, q2, q3, q4⟩ => ?_
    · refine ib (X.tr pn xe) W' ⟨⟨⟨G.e.g.hP, G.e.g.hw, G.e.g.hK, G.e.g.un⟩, G.e.N, G.e.nd, G.e.sc, G.e.fk, G.e.fn, G.e.calm, takesN tk', fun b _ => pas_of tk' b, G.e.blt, G.e.con, G.e.exf, ?_, G.e.fns⟩, po, fun _ => tk', (fun z => by cases z), G.stk, G.frm, G.exs⟩ b' h8
      intro z
      have z : x.hot = true := z
      rw [show x.hot = false by simpa using h1] at z
      cases z
    · obtain ⟨k, bb, e1, rfl, rfl, q⟩ := q
      obtain ⟨_, _, D', d1, d2, d3⟩ := G.e.exf.isx k c bb e1
      have hz' : Zc (.ref D') none oe := by rw [← d1]; exact hz
      refine (is { m with ea := a, ek := k } (X.suite a ((a, oe) :: pn)) W0 ⟨⟨⟨G.e.g.hP, G.e.g.hw, G.e.g.hK, G.e.g.un⟩, G.e.N, G.e.nd, G.e.sc, G.e.fk, G.e.fn, (fun z => by cases z), takesN takes0, fun b _ => pas_of takes0 b, G.e.blt, G.e.con, ⟨G.e.exf.at_, G.e.exf.isx, G.e.exf.ve⟩, fun _ => ⟨D', d1, ?_, ?_⟩, (fun z => by cases z)⟩, PassesOwn.never, fun _ => takes0, (fun z => by cases z), G.stk, G.frm, G.exs⟩ (s0 :: s') h9).run pins s σ H D I q
      · rw [show (X.suite a ((a, oe) :: pn)).K = m.K from G.e.g.hK]; exact d3
      · exact call_isE (by rw [G.e.g.hK]; exact d2) hz' hf
    · rw [exec] at q3
      cases e : execs m.C b env st with
      | none => rw [e] at q3; cases q3
      | some r' =>
        rw [e] at q3
        refine ⟨al, env, st, r', q1, q2, e, ?_⟩
        cases r' with
        | ok f env' st' => cases q3; exact q4
        | exc k env' st' =>
          simp only at q3
          cases e1 : m.C.isx k c with
          | none => rw [e1] at q3; cases q3
          | some bb =>
            rw [e1] at q3
            obtain ⟨x1, x2, D', d1, d2, d3⟩ := G.e.exf.isx k c bb e1
            intro al' H' σ' y g h'
            refine ⟨bb, by rw [G.e.g.hK, ← f2]; exact x1, fun hb a ha => ?_, fun hb => ?_⟩
            · subst hb
              simp only [inS] at q3
              split at q3
              · rename_i hcl
                rw [Bool.and_eq_true] at hcl
                cases e2 : execs m.C su (env'.set i (some (.err k))) st' with
                | none => rw [e2] at q3; cases q3
                | some r2 =>
                  rw [e2] at q3
                  cases r2 with
                  | exc c2 env2 st2 => cases q3
                  | ok f env2 st2 =>
                    simp only at q3
                    split at q3
                    · rename_i hcl2
                      simp only [Bool.and_eq_true] at hcl2
                      cases q3
                      have g' : ({ m with ea := a, ek := k } : Mm).RH al' H' st' := RelH.turn (k := m.KK) (k' := ({ m with ea := a, ek := k } : Mm).KK) rfl hcl.2 g
                      have he' : ({ m with ea := a, ek := k } : Mm).RE al' H' env' σ' := RelE.turn (k := m.KK) (k' := ({ m with ea := a, ek := k } : Mm).KK) rfl hcl.1 h'
                      refine ⟨k, true, e1, rfl, rfl, al', _, st', _, g', he'.set i (u := .err k) (v := .ref a) (show RelU _ _ _ (U.err k) (V.ref a) from ⟨rfl, rfl⟩), e2, ?_⟩
                      intro al2 H2 σ2 y2 g2 h2
                      have ge : m.RH al2 H2 st2 := RelH.turn (k := ({ m with ea := a, ek := k } : Mm).KK) (k' := m.KK) rfl hcl2.1.2 g2
                      have he : m.RE al2 H2 (env2.set i none) (σ2.set i none) := RelE.turn (k := ({ m with ea := a, ek := k } : Mm).KK) (k' := m.KK) rfl hcl2.1.1 (h2.unset i none)
                      have fin := q4 al2 H2 (σ2.set i none) (y.trans y2) ge he
                      cases f with
                      | nx => exact fin
                      | br => exact fin
                      | ct => exact fin
                      | rt u => exact fun v ru => fin v (RelU.turn (k := ({ m with ea := a, ek := k } : Mm).KK) (k' := m.KK) rfl u hcl2.2 ru)
                    · cases q3
              · cases q3
            · subst hb
              cases q3
              exact q4 al' H' σ' y g h'
  · cases h
theorem p_tryR (G : GoodS m x X W) {b : CSs} {c d : Nat} {s : Stmt} (ib : ∀ X' W', GoodS m { x with nc := true, tr := true } X' W' → ∀ l, chSs { x with nc := true, tr := true } b l = true → PSs X' l (tSs m W' b))
    (h : chS x (.tryR b c d) s = true) : PS X s (tS m W (.tryR b c d)) := by
  unfold chS at h
  split at h
  · rename_i b' n np n2 np2 msg j p3 p4 p5 p6 pos
    simp only [Bool.and_eq_true, decide_eq_true_eq] at h
    obtain ⟨⟨⟨⟨⟨⟨⟨h1, h2⟩, h3⟩, h4⟩, h5⟩, h6⟩, h7⟩, h8⟩ := h
    have hnc : x.nc = false := by simpa using h2
    have htr : x.tr = false := by simpa using h3
    have tk := G.tk hnc
    obtain ⟨C, f1, f2⟩ := G.e.exf.at_ c n h4
    obtain ⟨g1, g2⟩ := G.e.gl h5
    obtain ⟨C2, k1, k2, k3, k4, k5, k6⟩ := G.exs d n2 h6
    obtain ⟨g3, g4⟩ := G.e.gl h7
    refine PS.mono (L2H.ps_try_onlyX (tb := fun W' => tSs m W' b) (ts := fun a cls dd D σ H => W (.ref C2) none σ H) G.stk G.frm ⟨g1, g2, .inl f1⟩ (G.poA htr) tk (fun W' pn xe tk' tk2 po => ?_) (fun a oe cls dd pn hz hf tk' hot => pss_one (L2H.ps_raiseH hot tk' (L2N.pmk_own PySem.F.excBase_ValueError k3 k1 k4 (raises_own k5 k6) g3 g4)))) fun D σ H ⟨al, env, st, r, q1, q2, q3, q4⟩ => ?_
    · refine ib (X.tr pn xe) W' ⟨⟨⟨G.e.g.hP, G.e.g.hw, G.e.g.hK, G.e.g.un⟩, G.e.N, G.e.nd, G.e.sc, G.e.fk, G.e.fn, G.e.calm, tk', fun b hb => ?_, G.e.blt, G.e.con, G.e.exf, ?_, G.e.fns⟩, po, (fun z => by cases z), (fun z => by cases z), G.stk, G.frm, G.exs⟩ b' h8
      · cases b with
        | true => exact fun σ => L2N.passAt tk' σ
        | false => cases hb
      · intro z
        have z : x.hot = true := z
        rw [show x.hot = false by simpa using h1] at z
        cases z
    · rw [exec] at q3
      cases e : execs m.C b env st with
      | none => rw [e] at q3; cases q3
      | some r' =>
        rw [e] at q3
        refine ⟨al, env, st, r', q1, q2, e, ?_⟩
        cases r' with
        | ok f env' st' => cases q3; exact q4
        | exc k env' st' =>
          simp only at q3
          cases e1 : m.C.isx k c with
          | none => rw [e1] at q3; cases q3
          | some bb =>
            rw [e1] at q3
            obtain ⟨x1, x2, D', d1, d2, d3⟩ := G.e.exf.isx k c bb e1
            intro al' H' σ' y g h'
            refine ⟨bb, by rw [G.e.g.hK, ← f2]; exact x1, fun hb a ha => ?_, fun hb => ?_⟩
            · subst hb
              cases q3
              have := q4 al' H' σ' y g h'
              rw [k2] at this
              exact this
            · subst hb
              cases q3
              exact q4 al' H' σ' y g h'
  · cases h
mutual
theorem sndS : ∀ c : CS, ∀ m x X W, GoodS m x X W → ∀ s, chS x c s = true → PS X s (tS m W c)
  | .asg g e, m, x, X, W, G, s, h => p_asg G h
  | .par i j a b, m, x, X, W, G, s, h => p_par G h
  | .sub o i e, m, x, X, W, G, s, h => p_sub G h
  | .ex e, m, x, X, W, G, s, h => p_ex G h
  | .ret e, m, x, X, W, G, s, h => p_ret G h
  | .ret0, m, x, X, W, G, s, h => p_ret0 h
  | .iff t a b, m, x, X, W, G, s, h => p_if G (sndSs a m x X W G) (sndSs b m x X W G) h
  | .whl t b, m, x, X, W, G, s, h => p_while G (sndSs b m x X W G) h
  | .for_ g it b, m, x, X, W, G, s, h => p_for G (sndSs b m x X W G) h
  | .brk, m, x, X, W, G, s, h => p_brk h
  | .cnt, m, x, X, W, G, s, h => p_cnt h
  | .pass, m, x, X, W, G, s, h => p_pass h
  | .raise c, m, x, X, W, G, s, h => p_raise G h
  | .tryA b c i su, m, x, X, W, G, s, h => p_tryA G (fun X' W' => sndSs b m _ X' W') (fun m' X' W' => sndSs su m' _ X' W') h
  | .tryR b c d, m, x, X, W, G, s, h => p_tryR G (fun X' W' => sndSs b m _ X' W') h
theorem sndSs : ∀ c : CSs, ∀ m x X W, GoodS m x X W → ∀ s, chSs x c s = true → PSs X s (tSs m W c)
  | .nil, m, x, X, W, G, s, h => p_nil h
  | .cons c cs, m, x, X, W, G, s, h => p_cons (sndS c m x X W G) (sndSs cs m x X W G) h
end
end
end Cw

set_option Elab.async false
set_option linter.all false
set_option maxRecDepth 100000
set_option maxHeartbeats 2000000
/-! a def's run keeps its promise -/
namespace Cw
open PySem PySem.Spec PyProof.Rows L2
section
variable {K : KK} {α β : List Addr} {H : Hp}
mutual
theorem RelU.flat : ∀ (u : U) {v : V}, flat u = true → RelU K α H u v → RelU K β H u v
  | .non, _, _, h => h
  | .bl _, _, _, h => h
  | .int _, _, _, h => h
  | .str _, _, _, h => h
  | .tup us, v, hf, h => by
    obtain ⟨a, vs, e, h1, h2⟩ := h
    exact ⟨a, vs, e, h1, RelUs.flat us hf h2⟩
  | .fl us, v, hf, h => by
    obtain ⟨a, vs, e, h1, h2⟩ := h
    exact ⟨a, vs, e, h1, RelUs.flat us hf h2⟩
  | .ref _, _, hf, _ => by cases hf
  | .err _, _, hf, _ => by cases hf
theorem RelUs.flat : ∀ (us : List U) {vs : List V}, flats us = true → RelUs K α H us vs → RelUs K β H us vs
  | [], _, _, h => h
  | u :: us, vs, hf, h => by
    obtain ⟨v, r, e, h1, h2⟩ := h
    rw [flats, Bool.and_eq_true] at hf
    exact ⟨v, r, e, RelU.flat u hf.1 h1, RelUs.flat us hf.2 h2⟩
end
theorem RelE.start {N : List Str} {us : List U} {vs : List V} (h : RelUs K α H us vs) : RelE K α H (us.map some ++ List.replicate (N.length - us.length) none) (L2.start N vs) := by
  unfold L2.start
  refine ⟨by simp [h.len], fun i u e => ?_⟩
  by_cases hi : i < us.length
  · rw [List.getElem?_append_left (by simpa using hi), List.getElem?_map] at e
    cases e0 : us[i]? with
    | none => rw [e0] at e; cases e
    | some u' =>
      rw [e0] at e
      cases e
      obtain ⟨v, e1, r⟩ := h.get e0
      refine ⟨v, ?_, r⟩
      rw [List.getElem?_append_left (by rw [List.length_map, ← h.len]; exact hi), List.getElem?_map, e1]
      rfl
  · rw [List.getElem?_append_right (by simpa using hi), List.getElem?_replicate] at e
    split at e <;> cases e
end

/-- the defs of the module -/
structure Top (m : Mm) (mg : Str → Option Value) (ds : List Cw.Def) (consts : List (Str × U)) (excs : List Str) (isx : Nat → Nat → Option Bool) : Prop where
  fns : ∀ (f : Nat) (d : Cw.Def), ds[f]? = some d → ∃ fa fd st, mg d.name = some (.ref fa) ∧ L2.Fun m.K d.name d.name st fa fd ∧ L2.Binds m.K fd (d.N.take d.np) [] ∧ L2.FnScope d.N (d.N.take d.np) (defScope st) ∧ (d.N.take d.np).length = d.np ∧
    chSs ⟨d.N, defScope st, true, ds, consts, excs, d.nc, false, false⟩ d.body (defBody st) = true
  blt : ∀ n ∈ bltNames, mg n = none
  con : ∀ (n : Str) (u : U), consts.lookup n = some u → ∃ val v, mg n = some val ∧ RelV v val ∧ sV u = some v
  exs : ∀ (c : Nat) (n : Str), excs[c]? = some n → ∃ C, mg n = some (.ref C) ∧ m.clv c = .ref C ∧ PySem.W.excIn m.K C bmV "ValueError.__new__" = true ∧ PySem.W.keepIn m.K (.ref C) = true ∧
    PySem.W.subIn m.K (.ref C) (.type "BaseException") = some true ∧ PySem.W.typeIn m.K (.ref C) = some (.type "type")
  exf : ∀ call fu, ExF { m with C := ⟨call, fu, isx⟩ } mg excs
/-- the meaning of calls that go so deep -/
abbrev Mm.at (m : Mm) (ds : List Cw.Def) (fu : Nat) (isx : Nat → Nat → Option Bool) (k : Nat) : Mm := { m with C := ⟨run ds fu isx k, fu, isx⟩ }
theorem bodyU_ok {C : Cl} {d : Cw.Def} {us : List U} {st : Sto} {r : R U} (h : bodyU C d us st = some r) : ∃ r', execs C d.body (us.map some ++ List.replicate (d.N.length - us.length) none) st = some r' ∧ (match r' with
    | .ok .nx _ st' => r = .ok .non st'
    | .ok (.rt u) _ st' => r = .ok u st'
    | .exc c _ st' => r = .exc c st'
    | _ => False) := by
  unfold bodyU at h
  cases e : execs C d.body (us.map some ++ List.replicate (d.N.length - us.length) none) st with
  | none => rw [e] at h; cases h
  | some r' =>
    rw [e] at h
    refine ⟨r', rfl, ?_⟩
    cases r' with
    | exc c env st' => cases h; rfl
    | ok f env st' => cases f <;> first | (cases h; rfl) | cases h
/-- what the body's statements are to reach -/
theorem body_fin {m : Mm} {C : Cl} {d : Cw.Def} {us : List U} {st : Sto} {r : R U} {al : List Addr} {H : Hp} {Q : VK} {E : XK} (h : bodyU C d us st = some r) (hr : FinE m r al H Q E) :
    ∃ r', execs C d.body (us.map some ++ List.replicate (d.N.length - us.length) none) st = some r' ∧ FinS m (fun cls d _ H => E cls d H) { nx := fun _ H' => Q .non H', rt := Q } al H r' := by
  obtain ⟨r', e, k⟩ := bodyU_ok h
  refine ⟨r', e, ?_⟩
  cases r' with
  | exc c env st' =>
    cases k
    exact fun al' H' σ' y g _ => hr al' H' y g
  | ok f env st' =>
    cases f with
    | nx =>
      cases k
      exact fun al' H' σ' y g _ => hr al' H' .non y g rfl
    | rt u =>
      cases k
      exact fun al' H' σ' y g _ v ru => hr al' H' v y g ru
    | br => cases k
    | ct => cases k
theorem ext_nil {al al2 : List Addr} {H H2 : Hp} (x : Ext [] H al2 H2) : Ext al H al H2 :=
  ⟨⟨[], by simp⟩, x.tups, x.frzs, fun b o e _ => x.rest b o e (by simp), fun _ h => .inl h⟩
theorem eq_nil {m : Mm} {al al2 : List Addr} {H H2 : Hp} {st : Sto} (x : Ext [] H al2 H2) (h : m.RH al H st) (i : Nat) (a : Addr) (e : al[i]? = some a) : H2 a = H a := by
  obtain ⟨o, _, r⟩ := h.some_of e
  cases q : H a with
  | none => have := r.mut; rw [q] at this; exact this.elim
  | some z => exact x.rest a z q (by simp)
theorem rh_nil {m : Mm} {al al2 : List Addr} {H H2 : Hp} {st : Sto} (x : Ext [] H al2 H2) (h : m.RH al H st) : m.RH al H2 st := h.keep (ext_nil x) (eq_nil x h)
theorem outP_ok {m : Mm} {u : U} {st2 st : Sto} {r : R U} {al al2 : List Addr} {H H2 : Hp} {Q : VK} {E : XK} {v : V} (h : outP u st2 st = some r) (x : Ext [] H al2 H2) (g : m.RH al H st) (g2 : m.RH al2 H2 st2) (ru : m.RU al2 H2 u v) (hr : FinE m r al H Q E) : Q v H2 := by
  have fl : ∀ {u : U}, flat u = true → m.RU al2 H2 u v → (if flat u = true then some (R.ok u st) else none) = some r → Q v H2 := fun {u} hf ru h => by
    rw [if_pos hf] at h
    cases h
    exact hr al H2 v (ext_nil x) (rh_nil x g) (RelU.flat u hf ru)
  cases u with
  | ref i =>
    unfold outP at h
    simp only at h
    split at h
    · rename_i l e
      split at h
      · rename_i hf
        cases h
        obtain ⟨a, vs, rfl, e1, e2, e3⟩ := lst_of g2 ru e
        have ha : H a = none := (x.fr a (List.mem_of_getElem? e1)).elim (fun z => by simp at z) id
        have y : Ext al H (al ++ [a]) H2 := ⟨⟨[a], rfl⟩, x.tups, x.frzs, fun b o e _ => x.rest b o e (by simp), fun b hb => (List.mem_append.mp hb).imp id fun z => by rw [List.mem_singleton.mp z]; exact ha⟩
        have g3 := rh_nil x g
        refine hr (al ++ [a]) H2 _ y ⟨by simp [g.len], ?_, fun j b o hb ho => ?_⟩ ⟨a, rfl, ?_⟩
        · rw [List.nodup_append]
          refine ⟨g.nodup, by simp, fun z hz w hw => ?_⟩
          obtain ⟨j, hj⟩ := List.getElem?_of_mem hz
          simp at hw
          rw [hw]
          exact g.ne ha hj
        · by_cases hj : j < al.length
          · rw [List.getElem?_append_left hj] at hb
            rw [List.getElem?_append_left (by rw [← g.len]; exact hj)] at ho
            exact (g.obj j b o hb ho).mono y (eq_nil x g j b hb)
          · have hl : j < (al ++ [a]).length := (List.getElem?_eq_some_iff.mp hb).1
            simp at hl
            have ej : j = al.length := by omega
            subst ej
            rw [List.getElem?_append_right (Nat.le_refl _)] at hb
            simp at hb
            subst hb
            rw [g.len, List.getElem?_append_right (Nat.le_refl _)] at ho
            simp at ho
            subst ho
            exact ⟨vs, e2, RelUs.flat l hf e3⟩
        · rw [← g.len, List.getElem?_append_right (Nat.le_refl _)]
          simp
      · cases h
    · cases h
  | non => exact fl rfl ru h
  | bl _ => exact fl rfl ru h
  | int _ => exact fl rfl ru h
  | str _ => exact fl rfl ru h
  | tup l => unfold outP at h; cases hf : flat (.tup l) with
    | true => exact fl hf ru h
    | false => simp only [hf] at h; cases h
  | fl l => unfold outP at h; cases hf : flat (.fl l) with
    | true => exact fl hf ru h
    | false => simp only [hf] at h; cases h
  | err _ =>
    unfold outP at h
    simp [flat] at h

section
variable {m : Mm} {mg : Str → Option Value} {ds : List Cw.Def} {consts : List (Str × U)} {excs : List Str} {isx : Nat → Nat → Option Bool} {base : Heap}
/-- every def, however deep its calls go -/
theorem run_ok (T : Top m mg ds consts excs isx) (fu : Nat) : ∀ (k f : Nat) (d : Cw.Def), ds[f]? = some d → ∀ (fa : Addr) (fd : FuncData) (st : Stmt), L2.Fun m.K d.name d.name st fa fd → L2.FnScope d.N (d.N.take d.np) (defScope st) → (d.N.take d.np).length = d.np →
      chSs ⟨d.N, defScope st, true, ds, consts, excs, d.nc, false, false⟩ d.body (defBody st) = true → L2.FnOk m.P m.w m.K mg base (CXb d.nc m.P m.w) k fa fd (d.N.take d.np) (spC (m.at ds fu isx k) f)
  | 0, f, d, e, fa, fd, st, F, S, hl, hc => by
    have no : ∀ vs H Q E, ¬ spC (m.at ds fu isx 0) f vs H Q E := fun vs H Q E h => by
      obtain ⟨al, st, us, r, _, _, e, _⟩ := h
      have e : run ds fu isx 0 f us st = some r := e
      rw [run] at e
      cases e
    exact ⟨fun vs H Q E h => (no _ _ _ _ h).elim, fun A outer s H args us vs Q E _ _ _ _ h => (no _ _ _ _ h).elim⟩
  | k + 1, f, d, e, fa, fd, st, F, S, hl, hc => by
    obtain ⟨oc, od, kV, doc, pm, an, cdv, ct, osl, rfl, lk, hcd⟩ := F.ex
    refine fn_of lk hcd S (fun vs H Q E h => ?_) fun A outer s H vs Q E hr h => ?_
    · obtain ⟨al, st, us, r, _, ru, e1, _⟩ := h
      have e1 : run ds fu isx (k + 1) f us st = some r := e1
      rw [run, e] at e1
      simp only at e1
      split at e1
      · rename_i hz
        rw [← ru.len, hz, hl]
      · cases e1
    · obtain ⟨al, sto, us, r, g, ru, e1, fin⟩ := h
      have e1 : run ds fu isx (k + 1) f us sto = some r := e1
      rw [run, e] at e1
      simp only at e1
      split at e1
      · rename_i hz
        have un : (A.deeper (envOfC d.name (defScope st) s.heap.objs.size fa cdv)).units + 100 < cLine := by
          have := hr.un
          omega
        have fns : ∀ (f' : Nat) (d' : Cw.Def), ds[f']? = some d' → ∃ fa' fd' ps' k', mg d'.name = some (.ref fa') ∧ PySem.W.keepIn m.K (.ref fa') = true ∧ Binds m.K fd' ps' [] ∧ Room k' (A.deeper (envOfC d.name (defScope st) s.heap.objs.size fa cdv)) ∧ FnOk m.P m.w m.K mg base (CXb d'.nc m.P m.w) k' fa' fd' ps' (spC (m.at ds fu isx k) f') := fun f' d' e' => by
          obtain ⟨fa', fd', st', h1, h2, h3, h4, h5, h6⟩ := T.fns f' d' e'
          exact ⟨fa', fd', _, k, h1, h2.kp, h3, hr, run_ok T fu k f' d' e' fa' fd' st' h2 h4 h5 h6⟩
        have GS : GoodS (m.at ds fu isx k) ⟨d.N, defScope st, true, ds, consts, excs, d.nc, false, false⟩ (cxOf (CXb d.nc m.P m.w) m.P m.w m.K mg base d.N d.name (defScope st) fa cdv A outer s H E) (fun cls d _ H => E cls d H) := by
          cases hb : d.nc with
          | false =>
            have tk : L2.Takes (cxOf (CXb false m.P m.w) m.P m.w m.K mg base d.N d.name (defScope st) fa cdv A outer s H E) (fun cls d _ H => E cls d H) := L2.takes_of rfl rfl rfl rfl
            exact ⟨⟨⟨rfl, rfl, rfl, un⟩, rfl, S.nd, rfl, S.kind, fun _ _ => rfl, fun _ => rfl, takesN tk, fun b _ => pas_of tk b, T.blt, T.con, T.exf _ _, (fun z => by cases z), fun _ => fns⟩, passes_of rfl, fun _ => tk, fun _ hd => L2H.passesAt_of rfl hd, rfl, rfl, T.exs⟩
          | true =>
            have tk : L2N.Takes (cxOf (CXb true m.P m.w) m.P m.w m.K mg base d.N d.name (defScope st) fa cdv A outer s H E) (fun cls d _ H => E cls d H) := L2N.takes_of rfl rfl rfl rfl
            refine ⟨⟨⟨rfl, rfl, rfl, un⟩, rfl, S.nd, rfl, S.kind, fun _ _ => rfl, fun _ => rfl, tk, fun b hb => ?_, T.blt, T.con, T.exf _ _, (fun z => by cases z), fun _ => fns⟩, passes_of rfl, (fun z => by cases z), fun _ hd => L2H.passesAt_of rfl hd, rfl, rfl, T.exs⟩
            cases b with
            | true => exact fun σ => L2N.passAt tk σ
            | false => cases hb
        refine ⟨_, sndSs d.body (m.at ds fu isx k) _ _ _ GS (defBody st) hc, ?_⟩
        split at e1
        · -- sees nothing of its caller's
          unfold purU at e1
          split at e1
          · rename_i hf
            have ru' := RelUs.flat (β := []) us hf ru
            have fin' : ∀ (u : U) (st2 : Sto), outP u st2 sto = some r → ∀ al' H' v, Ext [] H al' H' → m.RH al' H' st2 → m.RU al' H' u v → Q v H' := fun u st2 ho al' H' v x g2 rv => outP_ok (m := m) (E := E) ho x g g2 rv fin
            cases e2 : bodyU ⟨run ds fu isx k, fu, isx⟩ d us [] with
            | none => rw [e2] at e1; cases e1
            | some r2 =>
              rw [e2] at e1
              have F2 : FinE (m.at ds fu isx k) r2 [] H Q E := by
                cases r2 with
                | ok u st2 => exact fun al' H' v x g2 rv => fin' u st2 e1 al' H' v x g2 rv
                | exc c st2 =>
                  cases e1
                  exact fun al' H' x g2 => fin al H' (ext_nil x) (rh_nil x g)
              obtain ⟨r3, e3, f3⟩ := body_fin e2 F2
              exact ⟨[], _, [], r3, ⟨rfl, by simp, fun i a o h => by simp at h⟩, RelE.start ru', e3, f3⟩
          · cases e1
        · obtain ⟨r3, e3, f3⟩ := body_fin e1 fin
          exact ⟨al, _, sto, r3, g, RelE.start ru, e3, f3⟩
      · cases e1
end
end Cw

set_option Elab.async false
set_option linter.all false
set_option maxRecDepth 100000
set_option maxHeartbeats 2000000
/-! what the top has written; the law's own head -/
namespace Cw
open PySem PySem.Spec PyProof.Rows L2
/-- a def as the top has written it -/
def FctD (K : PySem.W.Frag) (n : Str) (st : Stmt) : Prop := ∃ (fa : Addr) (oc : Value) (od an : Option Addr) (kV dc pm cd ct : Value) (osl : Array (Option Value)), PySem.W.nsIn K mainGlobals n = some (some (.ref fa)) ∧
  K.lookup fa = some ⟨oc, od, .func (PySem.W.fnOf n n (defArgs st) (defBody st) (defScope st) .none kV dc pm an cd ct), osl⟩ ∧ PySem.W.codeIn K cd n = true ∧ PySem.W.keepIn K (.ref fa) = true
def FctC (K : PySem.W.Frag) (n : Str) (v : V) : Prop := ∃ val : Value, PySem.W.nsIn K mainGlobals n = some (some val) ∧ RelV v val
def clvOf (K : PySem.W.Frag) (excs : List Str) (c : Nat) : Value := match excs[c]? with
  | some n => match PySem.W.nsIn K mainGlobals n with
    | some (some v) => v
    | _ => .none
  | none => .none
abbrev mmOf (P : Program) (w : World) (K : PySem.W.Frag) (excs : List Str) : Mm := ⟨P, w, K, fun _ => 0, clvOf K excs, ⟨fun _ _ _ => none, 0, fun _ _ => none⟩, 0, 0⟩
theorem fctD_mk {K : PySem.W.Frag} {n : Str} {st : Stmt} {fa : Addr} {oc : Value} {od an : Option Addr} {kV dc pm cd ct : Value} {osl : Array (Option Value)} (a : PySem.W.nsIn K mainGlobals n = some (some (.ref fa)))
    (l : K.lookup fa = some ⟨oc, od, .func (PySem.W.fnOf n n (defArgs st) (defBody st) (defScope st) .none kV dc pm an cd ct), osl⟩) (c : PySem.W.codeIn K cd n = true) (k : PySem.W.keepIn K (.ref fa) = true) : FctD K n st := ⟨fa, oc, od, an, kV, dc, pm, cd, ct, osl, a, l, c, k⟩
theorem fctI_mk {K : PySem.W.Frag} {n : Str} {i : Int} {t : Tok} (a : PySem.W.nsIn K mainGlobals n = some (some (.int i t))) : FctC K n (.int i) := ⟨_, a, t, rfl⟩
theorem fctS_mk {K : PySem.W.Frag} {n : Str} {i : Str} {t : Tok} (a : PySem.W.nsIn K mainGlobals n = some (some (.str i t))) : FctC K n (.str i) := ⟨_, a, t, rfl⟩
/-- a def of the top, checked -/
structure DefC (ds : List Cw.Def) (consts : List (Str × U)) (excs : List Str) (d : Cw.Def) (st : Stmt) : Prop where
  sc : L2.FnScope d.N (d.N.take d.np) (defScope st)
  np : (d.N.take d.np).length = d.np
  ck : chSs ⟨d.N, defScope st, true, ds, consts, excs, d.nc, false, false⟩ d.body (defBody st) = true
  bd : ∀ (K : PySem.W.Frag) (fa : Addr) (fd : FuncData), L2.Fun K d.name d.name st fa fd → L2.Binds K fd (d.N.take d.np) []
theorem top_fn {K : PySem.W.Frag} {h : Heap} {mg : Str → Option Value} {ds : List Cw.Def} {consts : List (Str × U)} {excs : List Str} {d : Cw.Def} {st : Stmt} (X : K.In h) (G : h.Ns mainGlobals mg) (c : DefC ds consts excs d st) (f : FctD K d.name st) :
    ∃ fa fd st, mg d.name = some (.ref fa) ∧ L2.Fun K d.name d.name st fa fd ∧ L2.Binds K fd (d.N.take d.np) [] ∧ L2.FnScope d.N (d.N.take d.np) (defScope st) ∧ (d.N.take d.np).length = d.np ∧
    chSs ⟨d.N, defScope st, true, ds, consts, excs, d.nc, false, false⟩ d.body (defBody st) = true := by
  obtain ⟨fa, oc, od, an, kV, dc, pm, cd, ct, osl, a, l, co, kp⟩ := f
  have F := fun_mk (st := st) l co kp
  exact ⟨fa, _, st, PySem.W.mg_of X G a, F, c.bd _ _ _ F, c.sc, c.np, c.ck⟩
/-! ### the classes of exceptions -/
def oT : Option Bool → Bool → Bool
  | some b, c => b == c
  | none, _ => false
theorem oT_of {o : Option Bool} {c : Bool} (h : oT o c = true) : o = some c := by
  cases o with
  | none => cases h
  | some b =>
    have : (b == c) = true := h
    rw [beq_iff_eq.mp this]
def oV : Option (Option Value) → String → Bool
  | some (some (.builtin s)), t => decide (s = t)
  | _, _ => false
theorem oV_of {o : Option (Option Value)} {t : String} (h : oV o t = true) : o = some (some (.builtin t)) := by
  unfold oV at h
  split at h
  · rw [decide_eq_true_eq] at h
    rw [h]
  · cases h
def oN : Option (Option Value) → Bool
  | some none => true
  | _ => false
theorem oN_of {o : Option (Option Value)} (h : oN o = true) : o = some none := by
  unfold oN at h
  split at h
  · rfl
  · cases h
def oY : Option Value → Bool
  | some (.type s) => decide (s = "type")
  | _ => false
theorem oY_of {o : Option Value} (h : oY o = true) : o = some (.type "type") := by
  unfold oY at h
  split at h
  · rw [decide_eq_true_eq] at h
    rw [h]
  · cases h
open PySem.W in
def excOk (K : Frag) (D : Addr) : Bool := excIn K D bmV "ValueError.__new__" && keepIn K (.ref D) && oT (subIn K (.ref D) (.type "BaseException")) true && oY (typeIn K (.ref D)) && oV (findIn K (.ref D) "__getattribute__") "BaseException.__getattribute__" && oN (findIn K (.ref D) "__getattr__") &&
  hasDictIn K D && oV (findIn K (.ref D) "__class__") "object.__class__" && oV (specialIn K (.builtin "object.__class__") "__get__") "getset_descriptor.__get__" && oT (takesIn K (.builtin "object.__class__")) true && oT (mroIn K D (.type "object")) true && oT (kitOne K (.ref D) (.type "ValueError")) true
def clsAt (K : PySem.W.Frag) (n : Str) : Option Addr := match PySem.W.nsIn K mainGlobals n with
  | some (some (.ref D)) => some D
  | _ => none
theorem clsAt_of {K : PySem.W.Frag} {n : Str} {D : Addr} (h : clsAt K n = some D) : PySem.W.nsIn K mainGlobals n = some (some (.ref D)) := by
  unfold clsAt at h
  split at h
  · rename_i e
    cases h
    exact e
  · cases h
/-- a row of the table: whether errors of D are errors of each class -/
def rowOk (K : PySem.W.Frag) (D : Addr) : List Str → List Bool → Bool
  | [], [] => true
  | n :: ns, b :: bs => (match clsAt K n with
    | some C => oT (PySem.W.exmOne K (.ref D) (.ref C)) b && oT (PySem.W.kitOne K (.ref D) (.ref C)) b
    | none => false) && rowOk K D ns bs
  | _, _ => false
def tabOk (K : PySem.W.Frag) (all : List Str) : List Str → List (List Bool) → Bool
  | [], [] => true
  | n :: ns, r :: rs => (match clsAt K n with
    | some D => excOk K D && rowOk K D all r
    | none => false) && tabOk K all ns rs
  | _, _ => false
def isxOf (tab : List (List Bool)) (k c : Nat) : Option Bool := match tab[k]? with
  | some r => r[c]?
  | none => none
theorem row_at {K : PySem.W.Frag} {D : Addr} : ∀ {ns : List Str} {bs : List Bool} {c : Nat} {b : Bool}, rowOk K D ns bs = true → bs[c]? = some b → ∃ n C, ns[c]? = some n ∧ clsAt K n = some C ∧ PySem.W.exmOne K (.ref D) (.ref C) = some b ∧ PySem.W.kitOne K (.ref D) (.ref C) = some b
  | [], [], _, _, _, h => by simp at h
  | n :: ns, b :: bs, 0, b', h, e => by
    simp at e
    subst e
    rw [rowOk, Bool.and_eq_true] at h
    have h1 := h.1
    split at h1
    · rename_i C e1
      rw [Bool.and_eq_true] at h1
      exact ⟨n, C, rfl, e1, oT_of h1.1, oT_of h1.2⟩
    · cases h1
  | n :: ns, b :: bs, c + 1, b', h, e => by
    rw [rowOk, Bool.and_eq_true] at h
    simp at e
    obtain ⟨n', C, q⟩ := row_at h.2 e
    exact ⟨n', C, by simpa using q.1, q.2⟩
  | [], _ :: _, _, _, h, _ => by cases h
  | _ :: _, [], _, _, h, _ => by cases h
theorem tab_at {K : PySem.W.Frag} {all : List Str} : ∀ {ns : List Str} {rs : List (List Bool)} {k : Nat}, tabOk K all ns rs = true → ∀ n, ns[k]? = some n → ∃ D r, clsAt K n = some D ∧ rs[k]? = some r ∧ excOk K D = true ∧ rowOk K D all r = true
  | [], [], _, _, _, h => by simp at h
  | n :: ns, r :: rs, 0, h, n', e => by
    simp at e
    subst e
    rw [tabOk, Bool.and_eq_true] at h
    have h1 := h.1
    split at h1
    · rename_i D e1
      rw [Bool.and_eq_true] at h1
      exact ⟨D, r, e1, rfl, h1.1, h1.2⟩
    · cases h1
  | n :: ns, r :: rs, k + 1, h, n', e => by
    rw [tabOk, Bool.and_eq_true] at h
    simp at e
    obtain ⟨D, r', q1, q2, q3⟩ := tab_at h.2 n' e
    exact ⟨D, r', q1, by simpa using q2, q3⟩
  | [], _ :: _, _, h, _, _ => by cases h
  | _ :: _, [], _, h, _, _ => by cases h
theorem tab_len {K : PySem.W.Frag} {all : List Str} : ∀ {ns : List Str} {rs : List (List Bool)}, tabOk K all ns rs = true → ns.length = rs.length
  | [], [], _ => rfl
  | n :: ns, r :: rs, h => by
    rw [tabOk, Bool.and_eq_true] at h
    rw [List.length_cons, List.length_cons, tab_len h.2]
  | [], _ :: _, h => by cases h
  | _ :: _, [], h => by cases h
theorem clv_at {K : PySem.W.Frag} {excs : List Str} {c : Nat} {n : Str} {D : Addr} (e : excs[c]? = some n) (h : clsAt K n = some D) : clvOf K excs c = .ref D := by
  unfold clvOf
  rw [e]
  simp only [clsAt_of h]
theorem top_exs {P : Program} {w : World} {K : PySem.W.Frag} {excs : List Str} {tab : List (List Bool)} {h : Heap} {mg : Str → Option Value} (X : K.In h) (G : h.Ns mainGlobals mg) (t : tabOk K excs excs tab = true) (c : Nat) (n : Str) (e : excs[c]? = some n) :
    ∃ C, mg n = some (.ref C) ∧ (mmOf P w K excs).clv c = .ref C ∧ PySem.W.excIn K C bmV "ValueError.__new__" = true ∧ PySem.W.keepIn K (.ref C) = true ∧
    PySem.W.subIn K (.ref C) (.type "BaseException") = some true ∧ PySem.W.typeIn K (.ref C) = some (.type "type") := by
  obtain ⟨D, r, q1, q2, q3, q4⟩ := tab_at t n e
  unfold excOk at q3
  simp only [Bool.and_eq_true] at q3
  obtain ⟨⟨⟨⟨⟨⟨⟨⟨⟨⟨⟨a1, a2⟩, a3⟩, a4⟩, a5⟩, a6⟩, a7⟩, a8⟩, a9⟩, a10⟩, a11⟩, a12⟩ := q3
  exact ⟨D, PySem.W.mg_of X G (clsAt_of q1), clv_at e q1, a1, a2, oT_of a3, oY_of a4⟩
theorem top_exf {P : Program} {w : World} {K : PySem.W.Frag} {excs : List Str} {tab : List (List Bool)} {h : Heap} {mg : Str → Option Value} (X : K.In h) (G : h.Ns mainGlobals mg) (t : tabOk K excs excs tab = true) (v : PySem.W.nsIn K mainGlobals "ValueError" = some none)
    (call : Nat → List U → Sto → M U) (fu : Nat) : ExF { mmOf P w K excs with C := ⟨call, fu, isxOf tab⟩ } mg excs := by
  refine ⟨fun c n e => ?_, fun k c b e => ?_, PySem.W.mg_none_of X G v⟩
  · obtain ⟨D, r, q1, q2, q3, q4⟩ := tab_at t n e
    exact ⟨D, PySem.W.mg_of X G (clsAt_of q1), clv_at e q1⟩
  · have e : isxOf tab k c = some b := e
    unfold isxOf at e
    split at e
    · rename_i r e1
      have hl : k < excs.length := by rw [tab_len t]; exact (List.getElem?_eq_some_iff.mp e1).1
      have ek : excs[k]? = some excs[k] := List.getElem?_eq_getElem hl
      obtain ⟨D, r', q1, q2, q3, q4⟩ := tab_at t _ ek
      rw [e1] at q2
      cases q2
      obtain ⟨n', C, p1, p2, p3, p4⟩ := row_at q4 e
      unfold excOk at q3
      simp only [Bool.and_eq_true] at q3
      obtain ⟨⟨⟨⟨⟨⟨⟨⟨⟨⟨⟨a1, a2⟩, a3⟩, a4⟩, a5⟩, a6⟩, a7⟩, a8⟩, a9⟩, a10⟩, a11⟩, a12⟩ := q3
      have d1 : clvOf K excs k = .ref D := clv_at ek q1
      have d2 : clvOf K excs c = .ref C := clv_at p1 p2
      refine ⟨?_, ?_, D, d1, ⟨oV_of a5, oN_of a6, oT_of a3, a7, oV_of a8, oV_of a9, oT_of a10, oT_of a11⟩, oT_of a12⟩
      · show PySem.W.exmOne K (clvOf K excs k) (clvOf K excs c) = some b
        rw [d1, d2]
        exact p3
      · show PySem.W.kitOne K (clvOf K excs k) (clvOf K excs c) = some b
        rw [d1, d2]
        exact p4
    · cases e
/-- the law's promise at a script -/
theorem sp_law {P : Program} {w : World} {K : PySem.W.Frag} {excs : List Str} {ds : List Cw.Def} {isx : Nat → Nat → Option Bool} {fu k li : Nat} {H : Hp} {a : Addr} {ns : List Int} (hO : Only H) (hS : SqL K H a (ns.map V.int)) {st : Sto}
    (h : run ds fu isx k li [.fl (ns.map U.int)] [] = some (.ok (.bl true) st)) : spC ((mmOf P w K excs).at ds fu isx k) li [.ref a] H (fun v _ => v = .bl true) fun _ _ _ => False := by
  refine ⟨[], [], [.fl (ns.map U.int)], _, ⟨rfl, by simp, fun i a o h => by simp at h⟩, ?_, h, fun al' H' v y g r => r⟩
  refine ⟨.ref a, [], rfl, ⟨a, ns.map V.int, rfl, ?_, ?_⟩, rfl⟩
  · rcases hS with hS | hS
    · rcases hS with hS | ⟨o, hS⟩
      · rcases hO a with z | ⟨o, xs, z⟩
        · rw [hS] at z; cases z
        · rw [hS] at z; cases z
      · exact .inl ⟨o, hS⟩
    · exact .inr hS
  · clear h hS
    induction ns with
    | nil => exact rfl
    | cons n ns ih => exact ⟨.int n, _, rfl, rfl, ih⟩
end Cw

set_option Elab.async false
set_option linter.all false
set_option maxRecDepth 100000
set_option maxHeartbeats 4000000
namespace G56
open PySem PySem.Spec PyProof.Rows L2 Cw
def topS (i : Nat) : Stmt := PySem.Challenge.pw_claspwork_k56_whole_refusals_apart.main.body.getD i (.Pass ⟨0, 0, 0, 0⟩)
def d_made_work : Cw.Def := ⟨"made_work", 1, ["mates", "size", "end", "mate"],
  (.cons (.asg (.var 1) (.blt .len (.cons (.var 0) .nil)))
  (.cons (.iff (.or_ (.cmp .eq (.bin .mod (.var 1) (.cst (.int 2))) (.cst (.int 1))) (.cmp .gt (.var 1) (.bin .mul (.cst (.int 2)) (.glb "MOST_STAVES" (.int 40))))) (.cons (.raise 1)
  .nil) .nil)
  (.cons (.for_ (.var 2) (.rng1 (.var 1)) (.cons (.asg (.var 3) (.idx (.var 0) (.var 2)))
  (.cons (.iff (.or_ (.cmp .lt (.var 3) (.cst (.int 0))) (.or_ (.cmp .ge (.var 3) (.var 1)) (.cmp .ne (.idx (.var 0) (.var 3)) (.var 2)))) (.cons (.raise 1)
  .nil) .nil)
  .nil)))
  (.cons (.ret (.blt .tuple (.cons (.var 0) .nil)))
  .nil)))), true, true⟩
def d_staves_in : Cw.Def := ⟨"staves_in", 1, ["work"],
  (.cons (.ret (.bin .fdiv (.blt .len (.cons (.var 0) .nil)) (.cst (.int 2))))
  .nil), true, true⟩
def d_far_end : Cw.Def := ⟨"far_end", 1, ["end"],
  (.cons (.ret (.bin .sub (.bin .add (.var 0) (.cst (.int 1))) (.bin .mul (.cst (.int 2)) (.bin .mod (.var 0) (.cst (.int 2))))))
  .nil), true, true⟩
def d_work_by : Cw.Def := ⟨"work_by", 2, ["staves", "clasps", "size", "mates", "one", "other"],
  (.cons (.asg (.var 2) (.bin .mul (.cst (.int 2)) (.var 0)))
  (.cons (.asg (.var 3) (.lrg (.cons (.var 2) .nil)))
  (.cons (.for_ (.tup [4, 5]) (.seq (.var 1)) (.cons (.iff (.or_ (.cmp .lt (.var 4) (.cst (.int 0))) (.or_ (.cmp .ge (.var 4) (.var 2)) (.or_ (.cmp .lt (.var 5) (.cst (.int 0))) (.or_ (.cmp .ge (.var 5) (.var 2)) (.cmp .eq (.var 4) (.var 5)))))) (.cons (.raise 1)
  .nil) .nil)
  (.cons (.iff (.or_ (.cmp .ne (.idx (.var 3) (.var 4)) (.var 4)) (.cmp .ne (.idx (.var 3) (.var 5)) (.var 5))) (.cons (.raise 1)
  .nil) .nil)
  (.cons (.sub (.var 3) (.var 4) (.var 5))
  (.cons (.sub (.var 3) (.var 5) (.var 4))
  .nil)))))
  (.cons (.ret (.blt .tuple (.cons (.var 3) .nil)))
  .nil)))), false, true⟩
def d_made_tree : Cw.Def := ⟨"made_tree", 1, ["elders", "root", "leaves", "told", "elder", "place"],
  (.cons (.asg (.var 1) (.blt .len (.cons (.var 0) .nil)))
  (.cons (.asg (.var 2) (.bin .add (.bin .fdiv (.var 1) (.cst (.int 2))) (.cst (.int 1))))
  (.cons (.iff (.or_ (.cmp .eq (.bin .mod (.var 1) (.cst (.int 2))) (.cst (.int 1))) (.cmp .gt (.var 1) (.glb "MOST_BOUGHS" (.int 30)))) (.cons (.raise 5)
  .nil) .nil)
  (.cons (.asg (.var 3) (.bin .mul (.lst (.cons (.cst (.int 0)) .nil)) (.bin .add (.var 1) (.cst (.int 1)))))
  (.cons (.for_ (.tup [5, 4]) (.enum (.var 0)) (.cons (.iff (.or_ (.cmp .le (.var 4) (.var 5)) (.or_ (.cmp .lt (.var 4) (.var 2)) (.cmp .gt (.var 4) (.var 1)))) (.cons (.raise 5)
  .nil) .nil)
  (.cons (.sub (.var 3) (.var 4) (.bin .add (.idx (.var 3) (.var 4)) (.cst (.int 1))))
  .nil)))
  (.cons (.for_ (.var 4) (.rng2 (.var 2) (.bin .add (.var 1) (.cst (.int 1)))) (.cons (.iff (.cmp .ne (.idx (.var 3) (.var 4)) (.cst (.int 2))) (.cons (.raise 5)
  .nil) .nil)
  .nil))
  (.cons (.ret (.blt .tuple (.cons (.var 0) .nil)))
  .nil))))))), false, true⟩
def d_work_from : Cw.Def := ⟨"work_from", 2, ["rows", "rings", "clasps", "staves", "chain", "ring", "end", "k"],
  (.cons (.asg (.var 2) (.lst .nil))
  (.cons (.asg (.var 3) (.lst .nil))
  (.cons (.for_ (.var 4) (.seq (.bin .add (.blt .list (.cons (.var 0) .nil)) (.blt .list (.cons (.var 1) .nil)))) (.cons (.iff (.cmp .eq (.blt .len (.cons (.var 4) .nil)) (.cst (.int 0))) (.cons (.raise 1)
  .nil) .nil)
  (.cons (.for_ (.var 6) (.seq (.var 4)) (.cons (.ex (.mth .append (.var 3) (.cons (.bin .fdiv (.var 6) (.cst (.int 2))) .nil)))
  .nil))
  (.cons (.for_ (.var 7) (.rng2 (.cst (.int 1)) (.blt .len (.cons (.var 4) .nil))) (.cons (.ex (.mth .append (.var 2) (.cons (.tup (.cons (.call 2 (.cons (.idx (.var 4) (.bin .sub (.var 7) (.cst (.int 1)))) .nil)) (.cons (.idx (.var 4) (.var 7)) .nil))) .nil)))
  .nil))
  .nil))))
  (.cons (.iff (.or_ (.cmp .gt (.blt .len (.cons (.var 3) .nil)) (.glb "MOST_STAVES" (.int 40))) (.cmp .ne (.blt .sorted (.cons (.var 3) .nil)) (.lrg (.cons (.blt .len (.cons (.var 3) .nil)) .nil)))) (.cons (.raise 1)
  .nil) .nil)
  (.cons (.for_ (.var 5) (.seq (.var 1)) (.cons (.ex (.mth .append (.var 2) (.cons (.tup (.cons (.call 2 (.cons (.idx (.var 5) (.neg (.cst (.int 1)))) .nil)) (.cons (.idx (.var 5) (.cst (.int 0))) .nil))) .nil)))
  .nil))
  (.cons (.ret (.call 3 (.cons (.blt .len (.cons (.var 3) .nil)) (.cons (.var 2) .nil))))
  .nil)))))), false, true⟩
def d_fits_work : Cw.Def := ⟨"fits_work", 2, ["work", "deed", "one", "other"],
  (.cons (.asg (.tup [2, 3]) (.var 1))
  (.cons (.iff (.or_ (.cmp .lt (.var 2) (.cst (.int 0))) (.or_ (.cmp .gt (.var 2) (.var 3)) (.cmp .ge (.var 3) (.blt .len (.cons (.var 0) .nil))))) (.cons (.ret (.cst (.bl false)))
  .nil) .nil)
  (.cons (.iff (.cmp .eq (.var 2) (.var 3)) (.cons (.ret (.cmp .ne (.idx (.var 0) (.var 2)) (.var 2)))
  .nil) .nil)
  (.cons (.ret (.cmp .ne (.idx (.var 0) (.var 2)) (.var 3)))
  .nil)))), true, true⟩
def d_put_clasp : Cw.Def := ⟨"put_clasp", 3, ["mates", "one", "other"],
  (.cons (.sub (.var 0) (.var 1) (.var 2))
  (.cons (.sub (.var 0) (.var 2) (.var 1))
  .nil)), false, true⟩
def d_reclasped : Cw.Def := ⟨"reclasped", 2, ["work", "deed", "mates", "first", "second", "one", "other"],
  (.cons (.iff (.nt (.call 6 (.cons (.var 0) (.cons (.var 1) .nil)))) (.cons (.raise 2)
  .nil) .nil)
  (.cons (.asg (.tup [5, 6]) (.var 1))
  (.cons (.asg (.var 2) (.blt .list (.cons (.var 0) .nil)))
  (.cons (.asg (.var 3) (.idx (.var 0) (.var 5)))
  (.cons (.asg (.var 4) (.idx (.var 0) (.var 6)))
  (.cons (.iff (.cmp .eq (.var 5) (.var 6)) (.cons (.ex (.call 7 (.cons (.var 2) (.cons (.var 5) (.cons (.var 5) .nil)))))
  (.cons (.ex (.call 7 (.cons (.var 2) (.cons (.var 3) (.cons (.var 3) .nil)))))
  (.cons (.ret (.blt .tuple (.cons (.var 2) .nil)))
  .nil))) .nil)
  (.cons (.iff (.and_ (.cmp .ne (.var 3) (.var 5)) (.cmp .ne (.var 4) (.var 6))) (.cons (.ex (.call 7 (.cons (.var 2) (.cons (.var 3) (.cons (.var 4) .nil)))))
  .nil) (.cons (.iff (.cmp .ne (.var 3) (.var 5)) (.cons (.ex (.call 7 (.cons (.var 2) (.cons (.var 3) (.cons (.var 3) .nil)))))
  .nil) (.cons (.iff (.cmp .ne (.var 4) (.var 6)) (.cons (.ex (.call 7 (.cons (.var 2) (.cons (.var 4) (.cons (.var 4) .nil)))))
  .nil) .nil)
  .nil))
  .nil))
  (.cons (.ex (.call 7 (.cons (.var 2) (.cons (.var 5) (.cons (.var 6) .nil)))))
  (.cons (.ret (.blt .tuple (.cons (.var 2) .nil)))
  .nil))))))))), true, true⟩
def d_least_pair : Cw.Def := ⟨"least_pair", 2, ["work", "deed", "first", "second", "one", "other"],
  (.cons (.asg (.tup [4, 5]) (.var 1))
  (.cons (.asg (.var 2) (.idx (.var 0) (.var 4)))
  (.cons (.asg (.var 3) (.idx (.var 0) (.var 5)))
  (.cons (.iff (.cmp .eq (.var 4) (.var 5)) (.cons (.ret (.tup (.cons (.blt .min2 (.cons (.var 4) (.cons (.var 2) .nil))) (.cons (.blt .min2 (.cons (.var 4) (.cons (.var 2) .nil))) .nil))))
  .nil) .nil)
  (.cons (.iff (.and_ (.cmp .ne (.var 2) (.var 4)) (.and_ (.cmp .ne (.var 3) (.var 5)) (.cmp .lt (.blt .min2 (.cons (.var 2) (.cons (.var 3) .nil))) (.var 4)))) (.cons (.ret (.tup (.cons (.blt .min2 (.cons (.var 2) (.cons (.var 3) .nil))) (.cons (.blt .max2 (.cons (.var 2) (.cons (.var 3) .nil))) .nil))))
  .nil) .nil)
  (.cons (.ret (.tup (.cons (.var 4) (.cons (.var 5) .nil))))
  .nil)))))), true, true⟩
def d_all_deeds : Cw.Def := ⟨"all_deeds", 1, ["work", "found", "one", "other", "deed"],
  (.cons (.asg (.var 1) (.lst .nil))
  (.cons (.for_ (.var 2) (.rng1 (.blt .len (.cons (.var 0) .nil))) (.cons (.for_ (.var 3) (.rng2 (.var 2) (.blt .len (.cons (.var 0) .nil))) (.cons (.asg (.var 4) (.tup (.cons (.var 2) (.cons (.var 3) .nil))))
  (.cons (.iff (.and_ (.call 6 (.cons (.var 0) (.cons (.var 4) .nil))) (.cmp .eq (.call 9 (.cons (.var 0) (.cons (.var 4) .nil))) (.var 4))) (.cons (.ex (.mth .append (.var 1) (.cons (.var 4) .nil)))
  .nil) .nil)
  .nil)))
  .nil))
  (.cons (.ret (.var 1))
  .nil))), true, true⟩
def d_look_alike : Cw.Def := ⟨"look_alike", 2, ["one", "other"],
  (.cons (.iff (.cmp .ne (.blt .len (.cons (.var 0) .nil)) (.blt .len (.cons (.var 1) .nil))) (.cons (.raise 6)
  .nil) .nil)
  .nil), true, true⟩
def d_walked_ends : Cw.Def := ⟨"walked_ends", 3, ["start", "first", "second", "found", "onward"],
  (.cons (.asg (.var 3) (.lst (.cons (.var 0) .nil)))
  (.cons (.asg (.var 4) (.idx (.var 1) (.var 0)))
  (.cons (.whl (.and_ (.cmp .ne (.var 4) (.idx (.var 3) (.neg (.cst (.int 1))))) (.cmp .ne (.var 4) (.var 0))) (.cons (.ex (.mth .append (.var 3) (.cons (.var 4) .nil)))
  (.cons (.par 1 2 (.var 2) (.var 1))
  (.cons (.asg (.var 4) (.idx (.var 1) (.var 4)))
  .nil))))
  (.cons (.ret (.var 3))
  .nil)))), true, true⟩
def d_told_way : Cw.Def := ⟨"told_way", 2, ["one", "ends"],
  (.cons (.iff (.cmp .eq (.bin .mod (.blt .len (.cons (.var 1) .nil)) (.cst (.int 2))) (.cst (.int 1))) (.cons (.iff (.cmp .ne (.idx (.var 0) (.idx (.var 1) (.cst (.int 0)))) (.idx (.var 1) (.cst (.int 0)))) (.cons (.ex (.mth .reverse (.var 1) .nil))
  .nil) .nil)
  (.cons (.ret (.tup (.cons (.cst (.str "odd")) (.cons (.blt .tuple (.cons (.var 1) .nil)) .nil))))
  .nil)) .nil)
  (.cons (.iff (.cmp .lt (.idx (.var 1) (.neg (.cst (.int 1)))) (.idx (.var 1) (.cst (.int 0)))) (.cons (.ex (.mth .reverse (.var 1) .nil))
  .nil) .nil)
  (.cons (.iff (.cmp .eq (.idx (.var 0) (.idx (.var 1) (.cst (.int 0)))) (.idx (.var 1) (.cst (.int 0)))) (.cons (.ret (.tup (.cons (.cst (.str "bare")) (.cons (.blt .tuple (.cons (.var 1) .nil)) .nil))))
  .nil) .nil)
  (.cons (.ret (.tup (.cons (.cst (.str "tied")) (.cons (.blt .tuple (.cons (.var 1) .nil)) .nil))))
  .nil)))), false, true⟩
def d_thread_of : Cw.Def := ⟨"thread_of", 3, ["one", "other", "end", "ahead", "behind"],
  (.cons (.asg (.var 3) (.call 12 (.cons (.var 2) (.cons (.var 0) (.cons (.var 1) .nil)))))
  (.cons (.iff (.and_ (.cmp .gt (.blt .len (.cons (.var 3) .nil)) (.cst (.int 1))) (.and_ (.cmp .eq (.bin .mod (.blt .len (.cons (.var 3) .nil)) (.cst (.int 2))) (.cst (.int 0))) (.cmp .eq (.idx (.var 1) (.idx (.var 3) (.neg (.cst (.int 1))))) (.var 2)))) (.cons (.ret (.tup (.cons (.cst (.str "ring")) (.cons (.blt .tuple (.cons (.var 3) .nil)) .nil))))
  .nil) .nil)
  (.cons (.asg (.var 4) (.call 12 (.cons (.var 2) (.cons (.var 1) (.cons (.var 0) .nil)))))
  (.cons (.ex (.mth .reverse (.var 4) .nil))
  (.cons (.ret (.call 13 (.cons (.var 0) (.cons (.bin .add (.var 4) (.slL (.var 3) (.cst (.int 1)))) .nil))))
  .nil))))), true, true⟩
def d_threads : Cw.Def := ⟨"threads", 2, ["one", "other", "known", "found", "end", "thread", "met"],
  (.cons (.ex (.call 11 (.cons (.var 0) (.cons (.var 1) .nil))))
  (.cons (.asg (.var 2) (.dk0))
  (.cons (.asg (.var 3) (.lst .nil))
  (.cons (.for_ (.var 4) (.rng1 (.blt .len (.cons (.var 0) .nil))) (.cons (.iff (.cmp .notin (.var 4) (.var 2)) (.cons (.asg (.var 5) (.call 14 (.cons (.var 0) (.cons (.var 1) (.cons (.var 4) .nil)))))
  (.cons (.for_ (.var 6) (.seq (.idx (.var 5) (.cst (.int 1)))) (.cons (.sub (.var 2) (.var 6) (.cst (.bl true)))
  .nil))
  (.cons (.ex (.mth .append (.var 3) (.cons (.var 5) .nil)))
  .nil))) .nil)
  .nil))
  (.cons (.ret (.var 3))
  .nil))))), true, true⟩
def d_thread_score : Cw.Def := ⟨"thread_score", 2, ["one", "other", "score", "kind", "ends"],
  (.cons (.asg (.var 2) (.cst (.int 0)))
  (.cons (.for_ (.tup [3, 4]) (.seq (.call 15 (.cons (.var 0) (.cons (.var 1) .nil)))) (.cons (.iff (.cmp .eq (.var 3) (.cst (.str "ring"))) (.cons (.asg (.var 2) (.bin .add (.var 2) (.cst (.int 2))))
  .nil) .nil)
  (.cons (.iff (.cmp .eq (.var 3) (.cst (.str "odd"))) (.cons (.asg (.var 2) (.bin .add (.var 2) (.cst (.int 1))))
  .nil) .nil)
  .nil)))
  (.cons (.ret (.var 2))
  .nil))), true, true⟩
def d_apart_by : Cw.Def := ⟨"apart_by", 2, ["one", "other"],
  (.cons (.ret (.bin .sub (.call 1 (.cons (.var 0) .nil)) (.bin .fdiv (.call 16 (.cons (.var 0) (.cons (.var 1) .nil))) (.cst (.int 2)))))
  .nil), true, true⟩
def d_nearer_deeds : Cw.Def := ⟨"nearer_deeds", 2, ["one", "other", "apart", "deed"],
  (.cons (.asg (.var 2) (.call 17 (.cons (.var 0) (.cons (.var 1) .nil))))
  (.cons (.ret (.compIf (.var 3) (.var 3) (.seq (.call 10 (.cons (.var 0) .nil))) (.cmp .eq (.call 17 (.cons (.call 8 (.cons (.var 0) (.cons (.var 3) .nil))) (.cons (.var 1) .nil))) (.bin .sub (.var 2) (.cst (.int 1))))))
  .nil)), true, true⟩
def d_judged_paper : Cw.Def := ⟨"judged_paper", 3, ["one", "other", "paper", "work", "deed"],
  (.cons (.iff (.cmp .ne (.idx (.var 2) (.cst (.int 0))) (.blt .tuple (.cons (.call 15 (.cons (.var 0) (.cons (.var 1) .nil))) .nil))) (.cons (.raise 9)
  .nil) .nil)
  (.cons (.asg (.var 3) (.var 0))
  (.cons (.for_ (.var 4) (.seq (.idx (.var 2) (.cst (.int 1)))) (.cons (.iff (.nt (.call 6 (.cons (.var 3) (.cons (.var 4) .nil)))) (.cons (.raise 9)
  .nil) .nil)
  (.cons (.asg (.var 3) (.call 8 (.cons (.var 3) (.cons (.var 4) .nil))))
  .nil)))
  (.cons (.iff (.or_ (.cmp .ne (.var 3) (.var 1)) (.cmp .ne (.blt .len (.cons (.idx (.var 2) (.cst (.int 1))) .nil)) (.call 17 (.cons (.var 0) (.cons (.var 1) .nil))))) (.cons (.raise 9)
  .nil) .nil)
  (.cons (.ret (.blt .len (.cons (.idx (.var 2) (.cst (.int 1))) .nil)))
  .nil))))), true, true⟩
def d_lack_of : Cw.Def := ⟨"lack_of", 1, ["thread"],
  (.cons (.iff (.cmp .eq (.idx (.var 0) (.cst (.int 0))) (.cst (.str "ring"))) (.cons (.ret (.bin .sub (.bin .fdiv (.blt .len (.cons (.idx (.var 0) (.cst (.int 1))) .nil)) (.cst (.int 2))) (.cst (.int 1))))
  .nil) .nil)
  (.cons (.ret (.bin .fdiv (.blt .len (.cons (.idx (.var 0) (.cst (.int 1))) .nil)) (.cst (.int 2))))
  .nil)), true, true⟩
def d_lacks_of : Cw.Def := ⟨"lacks_of", 2, ["one", "other", "thread"],
  (.cons (.ret (.blt .sorted (.cons (.compIf (.tup (.cons (.idx (.var 2) (.cst (.int 0))) (.cons (.call 20 (.cons (.var 2) .nil)) .nil))) (.var 2) (.seq (.call 15 (.cons (.var 0) (.cons (.var 1) .nil)))) (.cmp .gt (.call 20 (.cons (.var 2) .nil)) (.cst (.int 0)))) .nil)))
  .nil), true, true⟩
def d_is_mixed : Cw.Def := ⟨"is_mixed", 1, ["lacks", "kinds", "kind", "lack"],
  (.cons (.asg (.var 1) (.comp (.var 2) (.tup [2, 3]) (.seq (.var 0))))
  (.cons (.ret (.and_ (.cmp .isin (.cst (.str "bare")) (.var 1)) (.cmp .isin (.cst (.str "tied")) (.var 1))))
  .nil)), false, true⟩
def d_shuffled_many : Cw.Def := ⟨"shuffled_many", 1, ["lacks", "many", "deeds", "kind", "lack", "k"],
  (.cons (.asg (.var 1) (.cst (.int 1)))
  (.cons (.asg (.var 2) (.cst (.int 0)))
  (.cons (.for_ (.tup [3, 4]) (.seq (.var 0)) (.cons (.for_ (.var 5) (.rng1 (.var 4)) (.cons (.asg (.var 2) (.bin .add (.var 2) (.cst (.int 1))))
  (.cons (.asg (.var 1) (.bin .fdiv (.bin .mul (.var 1) (.var 2)) (.bin .add (.var 5) (.cst (.int 1)))))
  (.cons (.iff (.cmp .gt (.var 5) (.cst (.int 0))) (.cons (.asg (.var 1) (.bin .mul (.var 1) (.bin .add (.var 4) (.cst (.int 1)))))
  .nil) .nil)
  .nil))))
  .nil))
  (.cons (.ret (.var 1))
  .nil)))), false, true⟩
def d_many_by : Cw.Def := ⟨"many_by", 3, ["one", "other", "book", "lacks", "key", "deed"],
  (.cons (.asg (.var 3) (.call 21 (.cons (.var 0) (.cons (.var 1) .nil))))
  (.cons (.iff (.nt (.call 22 (.cons (.var 3) .nil))) (.cons (.ret (.call 23 (.cons (.var 3) .nil)))
  .nil) .nil)
  (.cons (.asg (.var 4) (.blt .tuple (.cons (.var 3) .nil)))
  (.cons (.iff (.cmp .notin (.var 4) (.var 2)) (.cons (.sub (.var 2) (.var 4) (.blt .sum (.cons (.comp (.call 24 (.cons (.call 8 (.cons (.var 0) (.cons (.var 5) .nil))) (.cons (.var 1) (.cons (.var 2) .nil)))) (.var 5) (.seq (.call 18 (.cons (.var 0) (.cons (.var 1) .nil))))) .nil)))
  .nil) .nil)
  (.cons (.ret (.idx (.var 2) (.var 4)))
  .nil))))), false, true⟩
def d_look_how_far : Cw.Def := ⟨"look_how_far", 2, ["one", "other", "apart"],
  (.cons (.asg (.var 2) (.call 17 (.cons (.var 0) (.cons (.var 1) .nil))))
  (.cons (.iff (.or_ (.cmp .gt (.var 2) (.glb "MOST_APART" (.int 12))) (.and_ (.cmp .gt (.var 2) (.glb "MOST_CROSSED" (.int 6))) (.call 22 (.cons (.call 21 (.cons (.var 0) (.cons (.var 1) .nil))) .nil)))) (.cons (.raise 7)
  .nil) .nil)
  .nil)), true, true⟩
def d_fewest_many : Cw.Def := ⟨"fewest_many", 2, ["one", "other"],
  (.cons (.ex (.call 25 (.cons (.var 0) (.cons (.var 1) .nil))))
  (.cons (.ret (.call 24 (.cons (.var 0) (.cons (.var 1) (.cons (.dn0) .nil)))))
  .nil)), true, true⟩
def d_shared_by : Cw.Def := ⟨"shared_by", 1, ["there", "found", "first", "low", "high", "last"],
  (.cons (.asg (.var 1) (.lst .nil))
  (.cons (.for_ (.var 2) (.rng1 (.blt .len (.cons (.var 0) .nil))) (.cons (.asg (.var 3) (.idx (.var 0) (.var 2)))
  (.cons (.asg (.var 4) (.var 3))
  (.cons (.for_ (.var 5) (.rng2 (.var 2) (.blt .len (.cons (.var 0) .nil))) (.cons (.asg (.var 3) (.blt .min2 (.cons (.var 3) (.cons (.idx (.var 0) (.var 5)) .nil))))
  (.cons (.asg (.var 4) (.blt .max2 (.cons (.var 4) (.cons (.idx (.var 0) (.var 5)) .nil))))
  (.cons (.iff (.cmp .eq (.bin .sub (.var 4) (.var 3)) (.bin .sub (.var 5) (.var 2))) (.cons (.ex (.mth .append (.var 1) (.cons (.tup (.cons (.var 2) (.cons (.bin .add (.var 5) (.cst (.int 1))) .nil))) .nil)))
  .nil) .nil)
  .nil))))
  .nil))))
  (.cons (.ret (.var 1))
  .nil))), false, true⟩
def d_reach_over : Cw.Def := ⟨"reach_over", 2, ["stretches", "many", "found", "first", "behind", "place"],
  (.cons (.asg (.var 2) (.bin .mul (.lst (.cons (.bin .add (.var 1) (.cst (.int 1))) .nil)) (.bin .add (.var 1) (.cst (.int 1)))))
  (.cons (.for_ (.tup [3, 4]) (.seq (.var 0)) (.cons (.for_ (.var 5) (.rng2 (.bin .add (.var 3) (.cst (.int 1))) (.var 4)) (.cons (.sub (.var 2) (.var 5) (.blt .min2 (.cons (.idx (.var 2) (.var 5)) (.cons (.var 4) .nil))))
  .nil))
  .nil))
  (.cons (.ret (.var 2))
  .nil))), false, true⟩
def d_reach_back : Cw.Def := ⟨"reach_back", 2, ["stretches", "many", "found", "first", "behind", "place"],
  (.cons (.asg (.var 2) (.bin .mul (.lst (.cons (.neg (.cst (.int 1))) .nil)) (.bin .add (.var 1) (.cst (.int 1)))))
  (.cons (.for_ (.tup [3, 4]) (.seq (.var 0)) (.cons (.for_ (.var 5) (.rng2 (.bin .add (.var 3) (.cst (.int 1))) (.var 4)) (.cons (.sub (.var 2) (.var 5) (.blt .max2 (.cons (.idx (.var 2) (.var 5)) (.cons (.var 3) .nil))))
  .nil))
  .nil))
  (.cons (.ret (.var 2))
  .nil))), false, true⟩
def d_strong_by : Cw.Def := ⟨"strong_by", 1, ["there", "stretches", "over", "back", "found", "first", "behind"],
  (.cons (.asg (.var 1) (.call 27 (.cons (.var 0) .nil)))
  (.cons (.asg (.var 2) (.call 28 (.cons (.var 1) (.cons (.blt .len (.cons (.var 0) .nil)) .nil))))
  (.cons (.asg (.var 3) (.call 29 (.cons (.var 1) (.cons (.blt .len (.cons (.var 0) .nil)) .nil))))
  (.cons (.asg (.var 4) (.lst .nil))
  (.cons (.for_ (.tup [5, 6]) (.seq (.var 1)) (.cons (.iff (.and_ (.cmp .ge (.idx (.var 2) (.var 5)) (.var 6)) (.cmp .le (.idx (.var 3) (.var 6)) (.var 5))) (.cons (.ex (.mth .append (.var 4) (.cons (.tup (.cons (.var 5) (.cons (.var 6) .nil))) .nil)))
  .nil) .nil)
  .nil))
  (.cons (.ret (.var 4))
  .nil)))))), false, true⟩
def d_parts_within : Cw.Def := ⟨"parts_within", 2, ["stretch", "strong", "found", "place", "best", "other"],
  (.cons (.asg (.var 2) (.lst .nil))
  (.cons (.asg (.var 3) (.idx (.var 0) (.cst (.int 0))))
  (.cons (.whl (.cmp .lt (.var 3) (.idx (.var 0) (.cst (.int 1)))) (.cons (.asg (.var 4) (.tup (.cons (.var 3) (.cons (.bin .add (.var 3) (.cst (.int 1))) .nil))))
  (.cons (.for_ (.var 5) (.seq (.var 1)) (.cons (.iff (.and_ (.cmp .eq (.idx (.var 5) (.cst (.int 0))) (.var 3)) (.and_ (.cmp .ne (.var 5) (.var 0)) (.chain .lt .le (.idx (.var 4) (.cst (.int 1))) (.idx (.var 5) (.cst (.int 1))) (.idx (.var 0) (.cst (.int 1)))))) (.cons (.asg (.var 4) (.var 5))
  .nil) .nil)
  .nil))
  (.cons (.ex (.mth .append (.var 2) (.cons (.var 4) .nil)))
  (.cons (.asg (.var 3) (.idx (.var 4) (.cst (.int 1))))
  .nil)))))
  (.cons (.ret (.var 2))
  .nil)))), false, true⟩
def d_kind_of_parts : Cw.Def := ⟨"kind_of_parts", 2, ["there", "parts", "lows", "part"],
  (.cons (.asg (.var 2) (.comp (.blt .min1 (.cons (.slB (.var 0) (.idx (.var 3) (.cst (.int 0))) (.idx (.var 3) (.cst (.int 1)))) .nil)) (.var 3) (.seq (.var 1))))
  (.cons (.iff (.cmp .eq (.var 2) (.blt .sorted (.cons (.var 2) .nil))) (.cons (.ret (.cst (.str "straight")))
  .nil) .nil)
  (.cons (.iff (.cmp .eq (.var 2) (.srev (.var 2))) (.cons (.ret (.cst (.str "turned")))
  .nil) .nil)
  (.cons (.ret (.cst (.str "tight")))
  .nil)))), false, true⟩
def d_nest_at : Cw.Def := ⟨"nest_at", 3, ["there", "stretch", "strong", "inner", "parts", "nests", "other", "part"],
  (.cons (.iff (.cmp .eq (.bin .sub (.idx (.var 1) (.cst (.int 1))) (.idx (.var 1) (.cst (.int 0)))) (.cst (.int 1))) (.cons (.ret (.tup (.cons (.cst (.str "one")) (.cons (.idx (.var 1) (.cst (.int 0))) (.cons (.idx (.var 1) (.cst (.int 1))) (.cons (.tup .nil) .nil))))))
  .nil) .nil)
  (.cons (.asg (.var 3) (.compIf (.var 6) (.var 6) (.seq (.var 2)) (.and_ (.cmp .le (.idx (.var 1) (.cst (.int 0))) (.idx (.var 6) (.cst (.int 0)))) (.cmp .le (.idx (.var 6) (.cst (.int 1))) (.idx (.var 1) (.cst (.int 1)))))))
  (.cons (.asg (.var 4) (.call 31 (.cons (.var 1) (.cons (.var 3) .nil))))
  (.cons (.asg (.var 5) (.comp (.call 33 (.cons (.var 0) (.cons (.var 7) (.cons (.var 3) .nil)))) (.var 7) (.seq (.var 4))))
  (.cons (.ret (.tup (.cons (.call 32 (.cons (.var 0) (.cons (.var 4) .nil))) (.cons (.idx (.var 1) (.cst (.int 0))) (.cons (.idx (.var 1) (.cst (.int 1))) (.cons (.blt .tuple (.cons (.var 5) .nil)) .nil))))))
  .nil))))), false, true⟩
def d_line_of : Cw.Def := ⟨"line_of", 1, ["row", "number"],
  (.cons (.ret (.comp (.bin .sub (.blt .abs (.cons (.var 1) .nil)) (.cst (.int 1))) (.var 1) (.seq (.var 0))))
  .nil), true, true⟩
def d_is_crossed : Cw.Def := ⟨"is_crossed", 1, ["nest", "part"],
  (.cons (.iff (.cmp .eq (.idx (.var 0) (.cst (.int 0))) (.cst (.str "tight"))) (.cons (.ret (.cst (.bl true)))
  .nil) .nil)
  (.cons (.ret (.blt .any (.cons (.comp (.call 35 (.cons (.var 1) .nil)) (.var 1) (.seq (.idx (.var 0) (.cst (.int 3))))) .nil)))
  .nil)), true, true⟩
def d_is_minus : Cw.Def := ⟨"is_minus", 2, ["row", "nest"],
  (.cons (.iff (.cmp .eq (.idx (.var 1) (.cst (.int 0))) (.cst (.str "one"))) (.cons (.ret (.cmp .lt (.idx (.var 0) (.idx (.var 1) (.cst (.int 1)))) (.cst (.int 0))))
  .nil) .nil)
  (.cons (.ret (.cmp .eq (.idx (.var 1) (.cst (.int 0))) (.cst (.str "turned"))))
  .nil)), true, true⟩
def d_gather_needed : Cw.Def := ⟨"gather_needed", 4, ["row", "nest", "outer", "found", "mine", "part"],
  (.cons (.asg (.var 4) (.call 36 (.cons (.var 0) (.cons (.var 1) .nil))))
  (.cons (.iff (.cmp .ne (.var 4) (.var 2)) (.cons (.ex (.mth .append (.var 3) (.cons (.tup (.cons (.idx (.var 1) (.cst (.int 1))) (.cons (.bin .sub (.idx (.var 1) (.cst (.int 2))) (.cst (.int 1))) .nil))) .nil)))
  .nil) .nil)
  (.cons (.for_ (.var 5) (.seq (.idx (.var 1) (.cst (.int 3)))) (.cons (.ex (.call 37 (.cons (.var 0) (.cons (.var 5) (.cons (.var 4) (.cons (.var 3) .nil))))))
  .nil))
  .nil))), false, true⟩
def d_needed_turns : Cw.Def := ⟨"needed_turns", 1, ["row", "there", "nest", "found"],
  (.cons (.iff (.cmp .eq (.blt .len (.cons (.var 0) .nil)) (.cst (.int 0))) (.cons (.ret (.lst .nil))
  .nil) .nil)
  (.cons (.asg (.var 1) (.call 34 (.cons (.var 0) .nil)))
  (.cons (.asg (.var 2) (.call 33 (.cons (.var 1) (.cons (.tup (.cons (.cst (.int 0)) (.cons (.blt .len (.cons (.var 0) .nil)) .nil))) (.cons (.call 30 (.cons (.var 1) .nil)) .nil)))))
  (.cons (.iff (.call 35 (.cons (.var 2) .nil)) (.cons (.raise 10)
  .nil) .nil)
  (.cons (.asg (.var 3) (.lst .nil))
  (.cons (.ex (.call 37 (.cons (.var 0) (.cons (.var 2) (.cons (.cst (.bl false)) (.cons (.var 3) .nil))))))
  (.cons (.ret (.blt .sorted (.cons (.var 3) .nil)))
  .nil))))))), true, true⟩
def d_read_stave : Cw.Def := ⟨"read_stave", 1, ["text", "figures", "sign"],
  (.cons (.asg (.var 1) (.var 0))
  (.cons (.iff (.cmp .eq (.slU (.var 0) (.cst (.int 1))) (.cst (.str "-"))) (.cons (.asg (.var 1) (.slL (.var 0) (.cst (.int 1))))
  .nil) .nil)
  (.cons (.iff (.or_ (.cmp .lt (.blt .len (.cons (.var 1) .nil)) (.cst (.int 1))) (.or_ (.cmp .gt (.blt .len (.cons (.var 1) .nil)) (.cst (.int 2))) (.and_ (.cmp .eq (.idx (.var 1) (.cst (.int 0))) (.cst (.str "0"))) (.cmp .gt (.blt .len (.cons (.var 1) .nil)) (.cst (.int 1)))))) (.cons (.raise 11)
  .nil) .nil)
  (.cons (.for_ (.var 2) (.seq (.var 1)) (.cons (.iff (.cmp .notin (.var 2) (.glb "FIGURES" (.str "0123456789"))) (.cons (.raise 11)
  .nil) .nil)
  .nil))
  (.cons (.ret (.bin .sub (.bin .add (.bin .mul (.cst (.int 2)) (.blt .int (.cons (.var 1) .nil))) (.blt .len (.cons (.var 0) .nil))) (.blt .len (.cons (.var 1) .nil))))
  .nil))))), true, true⟩
def d_read_work : Cw.Def := ⟨"read_work", 1, ["text", "chains", "opened", "part", "closes", "work"],
  (.cons (.iff (.cmp .eq (.var 0) (.cst (.str "."))) (.cons (.ret (.tup .nil))
  .nil) .nil)
  (.cons (.asg (.var 1) (.dsp ["[", "("] (.cons (.lst .nil) (.cons (.lst .nil) .nil))))
  (.cons (.asg (.var 2) (.cst (.str "")))
  (.cons (.for_ (.var 3) (.seq (.tx .split (.var 0) (.cst (.str " ")))) (.cons (.iff (.cmp .eq (.var 2) (.cst (.str ""))) (.cons (.asg (.var 2) (.slU (.var 3) (.cst (.int 1))))
  (.cons (.asg (.var 3) (.slL (.var 3) (.cst (.int 1))))
  (.cons (.iff (.cmp .notin (.var 2) (.tup (.cons (.cst (.str "[")) (.cons (.cst (.str "(")) .nil)))) (.cons (.raise 11)
  .nil) .nil)
  (.cons (.ex (.mth .append (.idx (.var 1) (.var 2)) (.cons (.lst .nil) .nil)))
  .nil)))) .nil)
  (.cons (.asg (.var 4) (.idx (.dsp ["[", "("] (.cons (.cst (.str "]")) (.cons (.cst (.str ")")) .nil))) (.var 2)))
  (.cons (.iff (.cmp .eq (.slL (.var 3) (.neg (.cst (.int 1)))) (.var 4)) (.cons (.ex (.mth .append (.idx (.idx (.var 1) (.var 2)) (.neg (.cst (.int 1)))) (.cons (.call 39 (.cons (.slU (.var 3) (.neg (.cst (.int 1)))) .nil)) .nil)))
  (.cons (.asg (.var 2) (.cst (.str "")))
  .nil)) (.cons (.ex (.mth .append (.idx (.idx (.var 1) (.var 2)) (.neg (.cst (.int 1)))) (.cons (.call 39 (.cons (.var 3) .nil)) .nil)))
  .nil))
  .nil))))
  (.cons (.iff (.cmp .ne (.var 2) (.cst (.str ""))) (.cons (.raise 11)
  .nil) .nil)
  (.cons (.tryR (.cons (.asg (.var 5) (.call 5 (.cons (.idx (.var 1) (.cst (.str "["))) (.cons (.idx (.var 1) (.cst (.str "("))) .nil))))
  .nil) 1 11)
  (.cons (.ret (.var 5))
  .nil))))))), true, false⟩
def d_row_numbered : Cw.Def := ⟨"row_numbered", 3, ["one", "other", "number", "many", "found", "book", "deed", "behind"],
  (.cons (.asg (.var 3) (.call 26 (.cons (.var 0) (.cons (.var 1) .nil))))
  (.cons (.iff (.or_ (.cmp .lt (.var 2) (.cst (.int 0))) (.cmp .ge (.var 2) (.var 3))) (.cons (.raise 8)
  .nil) .nil)
  (.cons (.asg (.var 4) (.lst .nil))
  (.cons (.asg (.var 5) (.dk0))
  (.cons (.whl (.cmp .ne (.var 0) (.var 1)) (.cons (.for_ (.var 6) (.seq (.call 18 (.cons (.var 0) (.cons (.var 1) .nil)))) (.cons (.asg (.var 7) (.call 8 (.cons (.var 0) (.cons (.var 6) .nil))))
  (.cons (.asg (.var 3) (.call 24 (.cons (.var 7) (.cons (.var 1) (.cons (.var 5) .nil)))))
  (.cons (.iff (.cmp .lt (.var 2) (.var 3)) (.cons .brk
  .nil) .nil)
  (.cons (.asg (.var 2) (.bin .sub (.var 2) (.var 3)))
  .nil)))))
  (.cons (.ex (.mth .append (.var 4) (.cons (.var 6) .nil)))
  (.cons (.asg (.var 0) (.var 7))
  .nil))))
  (.cons (.ret (.var 4))
  .nil)))))), true, true⟩
def d_made_row : Cw.Def := ⟨"made_row", 1, ["numbers", "many", "met", "number", "amount"],
  (.cons (.asg (.var 1) (.blt .len (.cons (.var 0) .nil)))
  (.cons (.iff (.cmp .gt (.var 1) (.glb "MOST_NUMBERS" (.int 40))) (.cons (.raise 3)
  .nil) .nil)
  (.cons (.asg (.var 2) (.bin .mul (.lst (.cons (.cst (.bl false)) .nil)) (.var 1)))
  (.cons (.for_ (.var 3) (.seq (.var 0)) (.cons (.asg (.var 4) (.blt .abs (.cons (.var 3) .nil)))
  (.cons (.iff (.or_ (.cmp .lt (.var 4) (.cst (.int 1))) (.or_ (.cmp .gt (.var 4) (.var 1)) (.idx (.var 2) (.bin .sub (.var 4) (.cst (.int 1)))))) (.cons (.raise 3)
  .nil) .nil)
  (.cons (.sub (.var 2) (.bin .sub (.var 4) (.cst (.int 1))) (.cst (.bl true)))
  .nil))))
  (.cons (.ret (.blt .tuple (.cons (.var 0) .nil)))
  .nil))))), false, true⟩
def d_turn_about : Cw.Def := ⟨"turn_about", 3, ["row", "first", "last", "stretch", "number"],
  (.cons (.iff (.or_ (.cmp .lt (.var 1) (.cst (.int 0))) (.or_ (.cmp .gt (.var 1) (.var 2)) (.cmp .ge (.var 2) (.blt .len (.cons (.var 0) .nil))))) (.cons (.raise 4)
  .nil) .nil)
  (.cons (.asg (.var 3) (.comp (.bin .sub (.cst (.int 0)) (.var 4)) (.var 4) (.rev (.slB (.var 0) (.var 1) (.bin .add (.var 2) (.cst (.int 1)))))))
  (.cons (.ret (.bin .add (.bin .add (.slU (.var 0) (.var 1)) (.blt .tuple (.cons (.var 3) .nil))) (.slL (.var 0) (.bin .add (.var 2) (.cst (.int 1))))))
  .nil))), true, true⟩
def d__law_cell_at : Cw.Def := ⟨"_law_cell_at", 2, ["script", "k"],
  (.cons (.iff (.cmp .lt (.var 1) (.blt .len (.cons (.var 0) .nil))) (.cons (.ret (.idx (.var 0) (.var 1)))
  .nil) .nil)
  (.cons (.ret (.cst (.int 0)))
  .nil)), true, true⟩
def d__law_asked : Cw.Def := ⟨"_law_asked", 2, ["way", "number"],
  (.cons (.iff (.cmp .eq (.var 0) (.cst (.int 0))) (.cons (.ex (.call 0 (.cons (.tup (.cons (.cst (.int 0)) (.cons (.cst (.int 1)) (.cons (.bin .add (.cst (.int 2)) (.var 1)) .nil)))) .nil)))
  .nil) (.cons (.iff (.cmp .eq (.var 0) (.cst (.int 1))) (.cons (.ex (.call 8 (.cons (.tup (.cons (.cst (.int 0)) (.cons (.cst (.int 1)) .nil))) (.cons (.tup (.cons (.var 1) (.cons (.var 1) .nil))) .nil))))
  .nil) (.cons (.iff (.cmp .eq (.var 0) (.cst (.int 2))) (.cons (.ex (.call 42 (.cons (.lst (.cons (.cst (.int 1)) (.cons (.cst (.int 2)) (.cons (.bin .sub (.bin .sub (.cst (.int 0)) (.cst (.int 1))) (.bin .mod (.var 1) (.cst (.int 2)))) .nil)))) .nil)))
  .nil) (.cons (.iff (.cmp .eq (.var 0) (.cst (.int 3))) (.cons (.ex (.call 43 (.cons (.tup (.cons (.cst (.int 1)) (.cons (.neg (.cst (.int 2))) .nil))) (.cons (.cst (.int 0)) (.cons (.bin .add (.cst (.int 2)) (.var 1)) .nil)))))
  .nil) (.cons (.iff (.cmp .eq (.var 0) (.cst (.int 4))) (.cons (.ex (.call 4 (.cons (.lst (.cons (.cst (.int 2)) (.cons (.bin .add (.cst (.int 3)) (.var 1)) .nil))) .nil)))
  .nil) (.cons (.ex (.call 17 (.cons (.tup (.cons (.cst (.int 0)) (.cons (.cst (.int 1)) .nil))) (.cons (.trg (.cons (.bin .add (.cst (.int 4)) (.bin .mul (.cst (.int 2)) (.bin .mod (.var 1) (.cst (.int 9))))) .nil)) .nil))))
  .nil))
  .nil))
  .nil))
  .nil))
  .nil))
  .nil), true, true⟩
def d__law_asked_else : Cw.Def := ⟨"_law_asked_else", 2, ["way", "number", "loose", "end"],
  (.cons (.iff (.cmp .eq (.var 0) (.cst (.int 6))) (.cons (.asg (.var 2) (.trg (.cons (.cst (.int 26)) .nil)))
  (.cons (.ex (.call 26 (.cons (.var 2) (.cons (.blt .tuple (.cons (.comp (.bin .sub (.bin .add (.var 3) (.cst (.int 1))) (.bin .mul (.cst (.int 2)) (.bin .mod (.var 3) (.cst (.int 2))))) (.var 3) (.seq (.var 2))) .nil)) .nil))))
  .nil)) (.cons (.iff (.cmp .eq (.var 0) (.cst (.int 7))) (.cons (.ex (.call 41 (.cons (.tup (.cons (.cst (.int 0)) (.cons (.cst (.int 1)) .nil))) (.cons (.tup (.cons (.cst (.int 1)) (.cons (.cst (.int 0)) .nil))) (.cons (.bin .add (.cst (.int 1)) (.var 1)) .nil)))))
  .nil) (.cons (.iff (.cmp .eq (.var 0) (.cst (.int 8))) (.cons (.ex (.call 19 (.cons (.tup (.cons (.cst (.int 0)) (.cons (.cst (.int 1)) .nil))) (.cons (.tup (.cons (.cst (.int 1)) (.cons (.cst (.int 0)) .nil))) (.cons (.tup (.cons (.tup .nil) (.cons (.bin .mul (.tup (.cons (.tup (.cons (.cst (.int 0)) (.cons (.cst (.int 1)) .nil))) .nil)) (.bin .add (.cst (.int 1)) (.bin .mod (.var 1) (.cst (.int 5))))) .nil))) .nil)))))
  .nil) (.cons (.iff (.cmp .eq (.var 0) (.cst (.int 9))) (.cons (.ex (.call 38 (.cons (.idx (.lst (.cons (.tup (.cons (.cst (.int 2)) (.cons (.cst (.int 4)) (.cons (.cst (.int 1)) (.cons (.cst (.int 3)) .nil))))) (.cons (.tup (.cons (.neg (.cst (.int 3))) (.cons (.cst (.int 1)) (.cons (.cst (.int 4)) (.cons (.neg (.cst (.int 2))) .nil))))) (.cons (.tup (.cons (.cst (.int 3)) (.cons (.neg (.cst (.int 1))) (.cons (.cst (.int 4)) (.cons (.cst (.int 2)) .nil))))) (.cons (.tup (.cons (.cst (.int 2)) (.cons (.cst (.int 4)) (.cons (.neg (.cst (.int 1))) (.cons (.cst (.int 3)) .nil))))) .nil))))) (.bin .mod (.var 1) (.cst (.int 4)))) .nil)))
  .nil) (.cons (.ex (.call 40 (.cons (.idx (.lst (.cons (.cst (.str "")) (.cons (.cst (.str "[0 2]")) (.cons (.cst (.str "(0 0)")) (.cons (.cst (.str "[")) (.cons (.cst (.str "[0]  [1]")) (.cons (.cst (.str "[01]")) .nil))))))) (.bin .mod (.var 1) (.cst (.int 6)))) .nil)))
  .nil))
  .nil))
  .nil))
  .nil))
  .nil), true, false⟩
def d__law_marks : Cw.Def := ⟨"_law_marks", 2, ["way", "number", "marks", "e"],
  (.cons (.asg (.var 2) (.lst .nil))
  (.cons (.tryA (.cons (.iff (.cmp .lt (.var 0) (.cst (.int 6))) (.cons (.ex (.call 45 (.cons (.var 0) (.cons (.var 1) .nil))))
  .nil) (.cons (.ex (.call 46 (.cons (.var 0) (.cons (.var 1) .nil))))
  .nil))
  .nil) 0 3 (.cons (.asg (.var 2) (.lst (.cons (.isX 3 (some 1)) (.cons (.isX 3 (some 2)) (.cons (.isX 3 (some 3)) (.cons (.isX 3 (some 4)) .nil))))))
  (.cons (.ex (.mth .extend (.var 2) (.cons (.lst (.cons (.isX 3 (some 5)) (.cons (.isX 3 (some 6)) (.cons (.isX 3 (some 7)) (.cons (.isX 3 (some 8)) .nil))))) .nil)))
  (.cons (.ex (.mth .extend (.var 2) (.cons (.lst (.cons (.isX 3 (some 9)) (.cons (.isX 3 (some 10)) (.cons (.isX 3 (some 11)) .nil)))) .nil)))
  (.cons (.ex (.mth .append (.var 2) (.cons (.isX 3 none) .nil)))
  .nil)))))
  (.cons (.ret (.var 2))
  .nil))), true, false⟩
def d_law : Cw.Def := ⟨"law", 1, ["script", "way", "cell", "due", "k"],
  (.cons (.for_ (.var 1) (.rng1 (.cst (.int 11))) (.cons (.asg (.var 2) (.bin .mod (.call 44 (.cons (.var 0) (.cons (.var 1) .nil))) (.bin .pow (.cst (.int 10)) (.cst (.int 30)))))
  (.cons (.asg (.var 3) (.bin .add (.comp (.cmp .eq (.var 1) (.var 4)) (.var 4) (.rng1 (.cst (.int 11)))) (.lst (.cons (.cst (.bl true)) .nil))))
  (.cons (.iff (.cmp .ne (.call 47 (.cons (.var 1) (.cons (.var 2) .nil))) (.var 3)) (.cons (.ret (.cst (.bl false)))
  .nil) .nil)
  .nil))))
  (.cons (.ret (.cst (.bl true)))
  .nil)), false, false⟩
def ds : List Cw.Def := [d_made_work, d_staves_in, d_far_end, d_work_by, d_made_tree, d_work_from, d_fits_work, d_put_clasp, d_reclasped, d_least_pair, d_all_deeds, d_look_alike, d_walked_ends, d_told_way, d_thread_of, d_threads, d_thread_score, d_apart_by, d_nearer_deeds, d_judged_paper, d_lack_of, d_lacks_of, d_is_mixed, d_shuffled_many, d_many_by, d_look_how_far, d_fewest_many, d_shared_by, d_reach_over, d_reach_back, d_strong_by, d_parts_within, d_kind_of_parts, d_nest_at, d_line_of, d_is_crossed, d_is_minus, d_gather_needed, d_needed_turns, d_read_stave, d_read_work, d_row_numbered, d_made_row, d_turn_about, d__law_cell_at, d__law_asked, d__law_asked_else, d__law_marks, d_law]
def consts : List (Str × U) := [("MOST_STAVES", .int 40), ("MOST_BOUGHS", .int 30), ("MOST_APART", .int 12), ("MOST_CROSSED", .int 6), ("FIGURES", .str "0123456789"), ("MOST_NUMBERS", .int 40)]
def excs : List Str := ["ClaspError", "BadWork", "BadDeed", "BadRow", "BadStretch", "BadTree", "Unlike", "TooMany", "NoSuch", "NoPaper", "Crossed", "NoText"]
def tab : List (List Bool) := [[true, false, false, false, false, false, false, false, false, false, false, false], [true, true, false, false, false, false, false, false, false, false, false, false], [true, false, true, false, false, false, false, false, false, false, false, false], [true, false, false, true, false, false, false, false, false, false, false, false], [true, false, false, false, true, false, false, false, false, false, false, false], [true, false, false, false, false, true, false, false, false, false, false, false], [true, false, false, false, false, false, true, false, false, false, false, false], [true, false, false, false, false, false, false, true, false, false, false, false], [true, false, false, false, false, false, false, false, true, false, false, false], [true, false, false, false, false, false, false, false, false, true, false, false], [true, false, false, false, false, false, false, false, false, false, true, false], [true, false, false, false, false, false, false, false, false, false, false, true]]
end G56

set_option Elab.async false
set_option linter.all false
set_option maxRecDepth 100000
set_option maxHeartbeats 4000000
namespace G56
open PySem PySem.Spec PyProof.Rows L2 Cw
theorem c_made_work : Cw.DefC ds consts excs d_made_work (topS 15) :=
  ⟨⟨rfl, rfl, rfl, by decide +kernel, rfl, by decide +kernel, by decide +kernel⟩, rfl, by decide +kernel, fun _ _ _ F => F.binds fun _ _ _ _ _ _ us hl => match us, hl with | [_], _ => rfl⟩
theorem c_staves_in : Cw.DefC ds consts excs d_staves_in (topS 16) :=
  ⟨⟨rfl, rfl, rfl, by decide +kernel, rfl, by decide +kernel, by decide +kernel⟩, rfl, by decide +kernel, fun _ _ _ F => F.binds fun _ _ _ _ _ _ us hl => match us, hl with | [_], _ => rfl⟩
theorem c_far_end : Cw.DefC ds consts excs d_far_end (topS 17) :=
  ⟨⟨rfl, rfl, rfl, by decide +kernel, rfl, by decide +kernel, by decide +kernel⟩, rfl, by decide +kernel, fun _ _ _ F => F.binds fun _ _ _ _ _ _ us hl => match us, hl with | [_], _ => rfl⟩
theorem c_work_by : Cw.DefC ds consts excs d_work_by (topS 18) :=
  ⟨⟨rfl, rfl, rfl, by decide +kernel, rfl, by decide +kernel, by decide +kernel⟩, rfl, by decide +kernel, fun _ _ _ F => F.binds fun _ _ _ _ _ _ us hl => match us, hl with | [_, _], _ => rfl⟩
theorem c_made_tree : Cw.DefC ds consts excs d_made_tree (topS 21) :=
  ⟨⟨rfl, rfl, rfl, by decide +kernel, rfl, by decide +kernel, by decide +kernel⟩, rfl, by decide +kernel, fun _ _ _ F => F.binds fun _ _ _ _ _ _ us hl => match us, hl with | [_], _ => rfl⟩
theorem c_work_from : Cw.DefC ds consts excs d_work_from (topS 23) :=
  ⟨⟨rfl, rfl, rfl, by decide +kernel, rfl, by decide +kernel, by decide +kernel⟩, rfl, by decide +kernel, fun _ _ _ F => F.binds fun _ _ _ _ _ _ us hl => match us, hl with | [_, _], _ => rfl⟩
theorem c_fits_work : Cw.DefC ds consts excs d_fits_work (topS 25) :=
  ⟨⟨rfl, rfl, rfl, by decide +kernel, rfl, by decide +kernel, by decide +kernel⟩, rfl, by decide +kernel, fun _ _ _ F => F.binds fun _ _ _ _ _ _ us hl => match us, hl with | [_, _], _ => rfl⟩
theorem c_put_clasp : Cw.DefC ds consts excs d_put_clasp (topS 26) :=
  ⟨⟨rfl, rfl, rfl, by decide +kernel, rfl, by decide +kernel, by decide +kernel⟩, rfl, by decide +kernel, fun _ _ _ F => F.binds fun _ _ _ _ _ _ us hl => match us, hl with | [_, _, _], _ => rfl⟩
theorem c_reclasped : Cw.DefC ds consts excs d_reclasped (topS 27) :=
  ⟨⟨rfl, rfl, rfl, by decide +kernel, rfl, by decide +kernel, by decide +kernel⟩, rfl, by decide +kernel, fun _ _ _ F => F.binds fun _ _ _ _ _ _ us hl => match us, hl with | [_, _], _ => rfl⟩
theorem c_least_pair : Cw.DefC ds consts excs d_least_pair (topS 28) :=
  ⟨⟨rfl, rfl, rfl, by decide +kernel, rfl, by decide +kernel, by decide +kernel⟩, rfl, by decide +kernel, fun _ _ _ F => F.binds fun _ _ _ _ _ _ us hl => match us, hl with | [_, _], _ => rfl⟩
theorem c_all_deeds : Cw.DefC ds consts excs d_all_deeds (topS 29) :=
  ⟨⟨rfl, rfl, rfl, by decide +kernel, rfl, by decide +kernel, by decide +kernel⟩, rfl, by decide +kernel, fun _ _ _ F => F.binds fun _ _ _ _ _ _ us hl => match us, hl with | [_], _ => rfl⟩
theorem c_look_alike : Cw.DefC ds consts excs d_look_alike (topS 31) :=
  ⟨⟨rfl, rfl, rfl, by decide +kernel, rfl, by decide +kernel, by decide +kernel⟩, rfl, by decide +kernel, fun _ _ _ F => F.binds fun _ _ _ _ _ _ us hl => match us, hl with | [_, _], _ => rfl⟩
theorem c_walked_ends : Cw.DefC ds consts excs d_walked_ends (topS 32) :=
  ⟨⟨rfl, rfl, rfl, by decide +kernel, rfl, by decide +kernel, by decide +kernel⟩, rfl, by decide +kernel, fun _ _ _ F => F.binds fun _ _ _ _ _ _ us hl => match us, hl with | [_, _, _], _ => rfl⟩
theorem c_told_way : Cw.DefC ds consts excs d_told_way (topS 33) :=
  ⟨⟨rfl, rfl, rfl, by decide +kernel, rfl, by decide +kernel, by decide +kernel⟩, rfl, by decide +kernel, fun _ _ _ F => F.binds fun _ _ _ _ _ _ us hl => match us, hl with | [_, _], _ => rfl⟩
theorem c_thread_of : Cw.DefC ds consts excs d_thread_of (topS 34) :=
  ⟨⟨rfl, rfl, rfl, by decide +kernel, rfl, by decide +kernel, by decide +kernel⟩, rfl, by decide +kernel, fun _ _ _ F => F.binds fun _ _ _ _ _ _ us hl => match us, hl with | [_, _, _], _ => rfl⟩
theorem c_threads : Cw.DefC ds consts excs d_threads (topS 35) :=
  ⟨⟨rfl, rfl, rfl, by decide +kernel, rfl, by decide +kernel, by decide +kernel⟩, rfl, by decide +kernel, fun _ _ _ F => F.binds fun _ _ _ _ _ _ us hl => match us, hl with | [_, _], _ => rfl⟩
theorem c_thread_score : Cw.DefC ds consts excs d_thread_score (topS 36) :=
  ⟨⟨rfl, rfl, rfl, by decide +kernel, rfl, by decide +kernel, by decide +kernel⟩, rfl, by decide +kernel, fun _ _ _ F => F.binds fun _ _ _ _ _ _ us hl => match us, hl with | [_, _], _ => rfl⟩
theorem c_apart_by : Cw.DefC ds consts excs d_apart_by (topS 37) :=
  ⟨⟨rfl, rfl, rfl, by decide +kernel, rfl, by decide +kernel, by decide +kernel⟩, rfl, by decide +kernel, fun _ _ _ F => F.binds fun _ _ _ _ _ _ us hl => match us, hl with | [_, _], _ => rfl⟩
theorem c_nearer_deeds : Cw.DefC ds consts excs d_nearer_deeds (topS 39) :=
  ⟨⟨rfl, rfl, rfl, by decide +kernel, rfl, by decide +kernel, by decide +kernel⟩, rfl, by decide +kernel, fun _ _ _ F => F.binds fun _ _ _ _ _ _ us hl => match us, hl with | [_, _], _ => rfl⟩
theorem c_judged_paper : Cw.DefC ds consts excs d_judged_paper (topS 40) :=
  ⟨⟨rfl, rfl, rfl, by decide +kernel, rfl, by decide +kernel, by decide +kernel⟩, rfl, by decide +kernel, fun _ _ _ F => F.binds fun _ _ _ _ _ _ us hl => match us, hl with | [_, _, _], _ => rfl⟩
theorem c_lack_of : Cw.DefC ds consts excs d_lack_of (topS 44) :=
  ⟨⟨rfl, rfl, rfl, by decide +kernel, rfl, by decide +kernel, by decide +kernel⟩, rfl, by decide +kernel, fun _ _ _ F => F.binds fun _ _ _ _ _ _ us hl => match us, hl with | [_], _ => rfl⟩
theorem c_lacks_of : Cw.DefC ds consts excs d_lacks_of (topS 45) :=
  ⟨⟨rfl, rfl, rfl, by decide +kernel, rfl, by decide +kernel, by decide +kernel⟩, rfl, by decide +kernel, fun _ _ _ F => F.binds fun _ _ _ _ _ _ us hl => match us, hl with | [_, _], _ => rfl⟩
theorem c_is_mixed : Cw.DefC ds consts excs d_is_mixed (topS 46) :=
  ⟨⟨rfl, rfl, rfl, by decide +kernel, rfl, by decide +kernel, by decide +kernel⟩, rfl, by decide +kernel, fun _ _ _ F => F.binds fun _ _ _ _ _ _ us hl => match us, hl with | [_], _ => rfl⟩
theorem c_shuffled_many : Cw.DefC ds consts excs d_shuffled_many (topS 47) :=
  ⟨⟨rfl, rfl, rfl, by decide +kernel, rfl, by decide +kernel, by decide +kernel⟩, rfl, by decide +kernel, fun _ _ _ F => F.binds fun _ _ _ _ _ _ us hl => match us, hl with | [_], _ => rfl⟩
theorem c_many_by : Cw.DefC ds consts excs d_many_by (topS 48) :=
  ⟨⟨rfl, rfl, rfl, by decide +kernel, rfl, by decide +kernel, by decide +kernel⟩, rfl, by decide +kernel, fun _ _ _ F => F.binds fun _ _ _ _ _ _ us hl => match us, hl with | [_, _, _], _ => rfl⟩
theorem c_look_how_far : Cw.DefC ds consts excs d_look_how_far (topS 49) :=
  ⟨⟨rfl, rfl, rfl, by decide +kernel, rfl, by decide +kernel, by decide +kernel⟩, rfl, by decide +kernel, fun _ _ _ F => F.binds fun _ _ _ _ _ _ us hl => match us, hl with | [_, _], _ => rfl⟩
theorem c_fewest_many : Cw.DefC ds consts excs d_fewest_many (topS 50) :=
  ⟨⟨rfl, rfl, rfl, by decide +kernel, rfl, by decide +kernel, by decide +kernel⟩, rfl, by decide +kernel, fun _ _ _ F => F.binds fun _ _ _ _ _ _ us hl => match us, hl with | [_, _], _ => rfl⟩
theorem c_shared_by : Cw.DefC ds consts excs d_shared_by (topS 52) :=
  ⟨⟨rfl, rfl, rfl, by decide +kernel, rfl, by decide +kernel, by decide +kernel⟩, rfl, by decide +kernel, fun _ _ _ F => F.binds fun _ _ _ _ _ _ us hl => match us, hl with | [_], _ => rfl⟩
theorem c_reach_over : Cw.DefC ds consts excs d_reach_over (topS 54) :=
  ⟨⟨rfl, rfl, rfl, by decide +kernel, rfl, by decide +kernel, by decide +kernel⟩, rfl, by decide +kernel, fun _ _ _ F => F.binds fun _ _ _ _ _ _ us hl => match us, hl with | [_, _], _ => rfl⟩
theorem c_reach_back : Cw.DefC ds consts excs d_reach_back (topS 55) :=
  ⟨⟨rfl, rfl, rfl, by decide +kernel, rfl, by decide +kernel, by decide +kernel⟩, rfl, by decide +kernel, fun _ _ _ F => F.binds fun _ _ _ _ _ _ us hl => match us, hl with | [_, _], _ => rfl⟩
theorem c_strong_by : Cw.DefC ds consts excs d_strong_by (topS 56) :=
  ⟨⟨rfl, rfl, rfl, by decide +kernel, rfl, by decide +kernel, by decide +kernel⟩, rfl, by decide +kernel, fun _ _ _ F => F.binds fun _ _ _ _ _ _ us hl => match us, hl with | [_], _ => rfl⟩
theorem c_parts_within : Cw.DefC ds consts excs d_parts_within (topS 57) :=
  ⟨⟨rfl, rfl, rfl, by decide +kernel, rfl, by decide +kernel, by decide +kernel⟩, rfl, by decide +kernel, fun _ _ _ F => F.binds fun _ _ _ _ _ _ us hl => match us, hl with | [_, _], _ => rfl⟩
theorem c_kind_of_parts : Cw.DefC ds consts excs d_kind_of_parts (topS 58) :=
  ⟨⟨rfl, rfl, rfl, by decide +kernel, rfl, by decide +kernel, by decide +kernel⟩, rfl, by decide +kernel, fun _ _ _ F => F.binds fun _ _ _ _ _ _ us hl => match us, hl with | [_, _], _ => rfl⟩
theorem c_nest_at : Cw.DefC ds consts excs d_nest_at (topS 59) :=
  ⟨⟨rfl, rfl, rfl, by decide +kernel, rfl, by decide +kernel, by decide +kernel⟩, rfl, by decide +kernel, fun _ _ _ F => F.binds fun _ _ _ _ _ _ us hl => match us, hl with | [_, _, _], _ => rfl⟩
theorem c_line_of : Cw.DefC ds consts excs d_line_of (topS 61) :=
  ⟨⟨rfl, rfl, rfl, by decide +kernel, rfl, by decide +kernel, by decide +kernel⟩, rfl, by decide +kernel, fun _ _ _ F => F.binds fun _ _ _ _ _ _ us hl => match us, hl with | [_], _ => rfl⟩
theorem c_is_crossed : Cw.DefC ds consts excs d_is_crossed (topS 62) :=
  ⟨⟨rfl, rfl, rfl, by decide +kernel, rfl, by decide +kernel, by decide +kernel⟩, rfl, by decide +kernel, fun _ _ _ F => F.binds fun _ _ _ _ _ _ us hl => match us, hl with | [_], _ => rfl⟩
theorem c_is_minus : Cw.DefC ds consts excs d_is_minus (topS 63) :=
  ⟨⟨rfl, rfl, rfl, by decide +kernel, rfl, by decide +kernel, by decide +kernel⟩, rfl, by decide +kernel, fun _ _ _ F => F.binds fun _ _ _ _ _ _ us hl => match us, hl with | [_, _], _ => rfl⟩
theorem c_gather_needed : Cw.DefC ds consts excs d_gather_needed (topS 64) :=
  ⟨⟨rfl, rfl, rfl, by decide +kernel, rfl, by decide +kernel, by decide +kernel⟩, rfl, by decide +kernel, fun _ _ _ F => F.binds fun _ _ _ _ _ _ us hl => match us, hl with | [_, _, _, _], _ => rfl⟩
theorem c_needed_turns : Cw.DefC ds consts excs d_needed_turns (topS 65) :=
  ⟨⟨rfl, rfl, rfl, by decide +kernel, rfl, by decide +kernel, by decide +kernel⟩, rfl, by decide +kernel, fun _ _ _ F => F.binds fun _ _ _ _ _ _ us hl => match us, hl with | [_], _ => rfl⟩
theorem c_read_stave : Cw.DefC ds consts excs d_read_stave (topS 68) :=
  ⟨⟨rfl, rfl, rfl, by decide +kernel, rfl, by decide +kernel, by decide +kernel⟩, rfl, by decide +kernel, fun _ _ _ F => F.binds fun _ _ _ _ _ _ us hl => match us, hl with | [_], _ => rfl⟩
theorem c_read_work : Cw.DefC ds consts excs d_read_work (topS 69) :=
  ⟨⟨rfl, rfl, rfl, by decide +kernel, rfl, by decide +kernel, by decide +kernel⟩, rfl, by decide +kernel, fun _ _ _ F => F.binds fun _ _ _ _ _ _ us hl => match us, hl with | [_], _ => rfl⟩
theorem c_row_numbered : Cw.DefC ds consts excs d_row_numbered (topS 71) :=
  ⟨⟨rfl, rfl, rfl, by decide +kernel, rfl, by decide +kernel, by decide +kernel⟩, rfl, by decide +kernel, fun _ _ _ F => F.binds fun _ _ _ _ _ _ us hl => match us, hl with | [_, _, _], _ => rfl⟩
theorem c_made_row : Cw.DefC ds consts excs d_made_row (topS 74) :=
  ⟨⟨rfl, rfl, rfl, by decide +kernel, rfl, by decide +kernel, by decide +kernel⟩, rfl, by decide +kernel, fun _ _ _ F => F.binds fun _ _ _ _ _ _ us hl => match us, hl with | [_], _ => rfl⟩
theorem c_turn_about : Cw.DefC ds consts excs d_turn_about (topS 75) :=
  ⟨⟨rfl, rfl, rfl, by decide +kernel, rfl, by decide +kernel, by decide +kernel⟩, rfl, by decide +kernel, fun _ _ _ F => F.binds fun _ _ _ _ _ _ us hl => match us, hl with | [_, _, _], _ => rfl⟩
theorem c__law_cell_at : Cw.DefC ds consts excs d__law_cell_at (topS 77) :=
  ⟨⟨rfl, rfl, rfl, by decide +kernel, rfl, by decide +kernel, by decide +kernel⟩, rfl, by decide +kernel, fun _ _ _ F => F.binds fun _ _ _ _ _ _ us hl => match us, hl with | [_, _], _ => rfl⟩
theorem c__law_asked : Cw.DefC ds consts excs d__law_asked (topS 78) :=
  ⟨⟨rfl, rfl, rfl, by decide +kernel, rfl, by decide +kernel, by decide +kernel⟩, rfl, by decide +kernel, fun _ _ _ F => F.binds fun _ _ _ _ _ _ us hl => match us, hl with | [_, _], _ => rfl⟩
theorem c__law_asked_else : Cw.DefC ds consts excs d__law_asked_else (topS 79) :=
  ⟨⟨rfl, rfl, rfl, by decide +kernel, rfl, by decide +kernel, by decide +kernel⟩, rfl, by decide +kernel, fun _ _ _ F => F.binds fun _ _ _ _ _ _ us hl => match us, hl with | [_, _], _ => rfl⟩
theorem c__law_marks : Cw.DefC ds consts excs d__law_marks (topS 80) :=
  ⟨⟨rfl, rfl, rfl, by decide +kernel, rfl, by decide +kernel, by decide +kernel⟩, rfl, by decide +kernel, fun _ _ _ F => F.binds fun _ _ _ _ _ _ us hl => match us, hl with | [_, _], _ => rfl⟩
theorem c_law : Cw.DefC ds consts excs d_law (topS 81) :=
  ⟨⟨rfl, rfl, rfl, by decide +kernel, rfl, by decide +kernel, by decide +kernel⟩, rfl, by decide +kernel, fun _ _ _ F => F.binds fun _ _ _ _ _ _ us hl => match us, hl with | [_], _ => rfl⟩
theorem top_fns {K : PySem.W.Frag} {h : Heap} {mg : Str → Option Value} (X : K.In h) (G : h.Ns mainGlobals mg)
  (f0 : Cw.FctD K "made_work" (topS 15))
  (f1 : Cw.FctD K "staves_in" (topS 16))
  (f2 : Cw.FctD K "far_end" (topS 17))
  (f3 : Cw.FctD K "work_by" (topS 18))
  (f4 : Cw.FctD K "made_tree" (topS 21))
  (f5 : Cw.FctD K "work_from" (topS 23))
  (f6 : Cw.FctD K "fits_work" (topS 25))
  (f7 : Cw.FctD K "put_clasp" (topS 26))
  (f8 : Cw.FctD K "reclasped" (topS 27))
  (f9 : Cw.FctD K "least_pair" (topS 28))
  (f10 : Cw.FctD K "all_deeds" (topS 29))
  (f11 : Cw.FctD K "look_alike" (topS 31))
  (f12 : Cw.FctD K "walked_ends" (topS 32))
  (f13 : Cw.FctD K "told_way" (topS 33))
  (f14 : Cw.FctD K "thread_of" (topS 34))
  (f15 : Cw.FctD K "threads" (topS 35))
  (f16 : Cw.FctD K "thread_score" (topS 36))
  (f17 : Cw.FctD K "apart_by" (topS 37))
  (f18 : Cw.FctD K "nearer_deeds" (topS 39))
  (f19 : Cw.FctD K "judged_paper" (topS 40))
  (f20 : Cw.FctD K "lack_of" (topS 44))
  (f21 : Cw.FctD K "lacks_of" (topS 45))
  (f22 : Cw.FctD K "is_mixed" (topS 46))
  (f23 : Cw.FctD K "shuffled_many" (topS 47))
  (f24 : Cw.FctD K "many_by" (topS 48))
  (f25 : Cw.FctD K "look_how_far" (topS 49))
  (f26 : Cw.FctD K "fewest_many" (topS 50))
  (f27 : Cw.FctD K "shared_by" (topS 52))
  (f28 : Cw.FctD K "reach_over" (topS 54))
  (f29 : Cw.FctD K "reach_back" (topS 55))
  (f30 : Cw.FctD K "strong_by" (topS 56))
  (f31 : Cw.FctD K "parts_within" (topS 57))
  (f32 : Cw.FctD K "kind_of_parts" (topS 58))
  (f33 : Cw.FctD K "nest_at" (topS 59))
  (f34 : Cw.FctD K "line_of" (topS 61))
  (f35 : Cw.FctD K "is_crossed" (topS 62))
  (f36 : Cw.FctD K "is_minus" (topS 63))
  (f37 : Cw.FctD K "gather_needed" (topS 64))
  (f38 : Cw.FctD K "needed_turns" (topS 65))
  (f39 : Cw.FctD K "read_stave" (topS 68))
  (f40 : Cw.FctD K "read_work" (topS 69))
  (f41 : Cw.FctD K "row_numbered" (topS 71))
  (f42 : Cw.FctD K "made_row" (topS 74))
  (f43 : Cw.FctD K "turn_about" (topS 75))
  (f44 : Cw.FctD K "_law_cell_at" (topS 77))
  (f45 : Cw.FctD K "_law_asked" (topS 78))
  (f46 : Cw.FctD K "_law_asked_else" (topS 79))
  (f47 : Cw.FctD K "_law_marks" (topS 80))
  (f48 : Cw.FctD K "law" (topS 81)) :
  ∀ (f : Nat) (d : Cw.Def), ds[f]? = some d → ∃ fa fd st, mg d.name = some (.ref fa) ∧ L2.Fun K d.name d.name st fa fd ∧ L2.Binds K fd (d.N.take d.np) [] ∧ L2.FnScope d.N (d.N.take d.np) (defScope st) ∧ (d.N.take d.np).length = d.np ∧
    chSs ⟨d.N, defScope st, true, ds, consts, excs, d.nc, false, false⟩ d.body (defBody st) = true
  | 0, _, rfl => top_fn X G c_made_work f0
  | 1, _, rfl => top_fn X G c_staves_in f1
  | 2, _, rfl => top_fn X G c_far_end f2
  | 3, _, rfl => top_fn X G c_work_by f3
  | 4, _, rfl => top_fn X G c_made_tree f4
  | 5, _, rfl => top_fn X G c_work_from f5
  | 6, _, rfl => top_fn X G c_fits_work f6
  | 7, _, rfl => top_fn X G c_put_clasp f7
  | 8, _, rfl => top_fn X G c_reclasped f8
  | 9, _, rfl => top_fn X G c_least_pair f9
  | 10, _, rfl => top_fn X G c_all_deeds f10
  | 11, _, rfl => top_fn X G c_look_alike f11
  | 12, _, rfl => top_fn X G c_walked_ends f12
  | 13, _, rfl => top_fn X G c_told_way f13
  | 14, _, rfl => top_fn X G c_thread_of f14
  | 15, _, rfl => top_fn X G c_threads f15
  | 16, _, rfl => top_fn X G c_thread_score f16
  | 17, _, rfl => top_fn X G c_apart_by f17
  | 18, _, rfl => top_fn X G c_nearer_deeds f18
  | 19, _, rfl => top_fn X G c_judged_paper f19
  | 20, _, rfl => top_fn X G c_lack_of f20
  | 21, _, rfl => top_fn X G c_lacks_of f21
  | 22, _, rfl => top_fn X G c_is_mixed f22
  | 23, _, rfl => top_fn X G c_shuffled_many f23
  | 24, _, rfl => top_fn X G c_many_by f24
  | 25, _, rfl => top_fn X G c_look_how_far f25
  | 26, _, rfl => top_fn X G c_fewest_many f26
  | 27, _, rfl => top_fn X G c_shared_by f27
  | 28, _, rfl => top_fn X G c_reach_over f28
  | 29, _, rfl => top_fn X G c_reach_back f29
  | 30, _, rfl => top_fn X G c_strong_by f30
  | 31, _, rfl => top_fn X G c_parts_within f31
  | 32, _, rfl => top_fn X G c_kind_of_parts f32
  | 33, _, rfl => top_fn X G c_nest_at f33
  | 34, _, rfl => top_fn X G c_line_of f34
  | 35, _, rfl => top_fn X G c_is_crossed f35
  | 36, _, rfl => top_fn X G c_is_minus f36
  | 37, _, rfl => top_fn X G c_gather_needed f37
  | 38, _, rfl => top_fn X G c_needed_turns f38
  | 39, _, rfl => top_fn X G c_read_stave f39
  | 40, _, rfl => top_fn X G c_read_work f40
  | 41, _, rfl => top_fn X G c_row_numbered f41
  | 42, _, rfl => top_fn X G c_made_row f42
  | 43, _, rfl => top_fn X G c_turn_about f43
  | 44, _, rfl => top_fn X G c__law_cell_at f44
  | 45, _, rfl => top_fn X G c__law_asked f45
  | 46, _, rfl => top_fn X G c__law_asked_else f46
  | 47, _, rfl => top_fn X G c__law_marks f47
  | 48, _, rfl => top_fn X G c_law f48
  | _ + 49, _, e => by cases e
theorem top_blt {K : PySem.W.Frag} {h : Heap} {mg : Str → Option Value} (X : K.In h) (G : h.Ns mainGlobals mg) (b0 : PySem.W.nsIn K mainGlobals "len" = some none) (b1 : PySem.W.nsIn K mainGlobals "abs" = some none) (b2 : PySem.W.nsIn K mainGlobals "min" = some none) (b3 : PySem.W.nsIn K mainGlobals "max" = some none) (b4 : PySem.W.nsIn K mainGlobals "int" = some none) (b5 : PySem.W.nsIn K mainGlobals "str" = some none) (b6 : PySem.W.nsIn K mainGlobals "sum" = some none) (b7 : PySem.W.nsIn K mainGlobals "any" = some none) (b8 : PySem.W.nsIn K mainGlobals "all" = some none) (b9 : PySem.W.nsIn K mainGlobals "sorted" = some none) (b10 : PySem.W.nsIn K mainGlobals "list" = some none) (b11 : PySem.W.nsIn K mainGlobals "tuple" = some none) (b12 : PySem.W.nsIn K mainGlobals "range" = some none) (b13 : PySem.W.nsIn K mainGlobals "isinstance" = some none) (b14 : PySem.W.nsIn K mainGlobals "enumerate" = some none) (b15 : PySem.W.nsIn K mainGlobals "reversed" = some none) (b16 : PySem.W.nsIn K mainGlobals "bool" = some none) : ∀ n ∈ bltNames, mg n = none := by
  intro n hn
  simp only [bltNames, List.mem_cons, List.not_mem_nil, or_false] at hn
  rcases hn with rfl | rfl | rfl | rfl | rfl | rfl | rfl | rfl | rfl | rfl | rfl | rfl | rfl | rfl | rfl | rfl | rfl
  · exact PySem.W.mg_none_of X G b0
  · exact PySem.W.mg_none_of X G b1
  · exact PySem.W.mg_none_of X G b2
  · exact PySem.W.mg_none_of X G b3
  · exact PySem.W.mg_none_of X G b4
  · exact PySem.W.mg_none_of X G b5
  · exact PySem.W.mg_none_of X G b6
  · exact PySem.W.mg_none_of X G b7
  · exact PySem.W.mg_none_of X G b8
  · exact PySem.W.mg_none_of X G b9
  · exact PySem.W.mg_none_of X G b10
  · exact PySem.W.mg_none_of X G b11
  · exact PySem.W.mg_none_of X G b12
  · exact PySem.W.mg_none_of X G b13
  · exact PySem.W.mg_none_of X G b14
  · exact PySem.W.mg_none_of X G b15
  · exact PySem.W.mg_none_of X G b16
theorem top_con {K : PySem.W.Frag} {h : Heap} {mg : Str → Option Value} (X : K.In h) (G : h.Ns mainGlobals mg) (c0 : Cw.FctC K "MOST_STAVES" (.int 40)) (c1 : Cw.FctC K "MOST_BOUGHS" (.int 30)) (c2 : Cw.FctC K "MOST_APART" (.int 12)) (c3 : Cw.FctC K "MOST_CROSSED" (.int 6)) (c4 : Cw.FctC K "FIGURES" (.str "0123456789")) (c5 : Cw.FctC K "MOST_NUMBERS" (.int 40)) : ∀ (n : Str) (u : U), consts.lookup n = some u → ∃ val v, mg n = some val ∧ RelV v val ∧ sV u = some v := by
  intro n u h
  unfold consts at h
  by_cases h0 : n = "MOST_STAVES"
  · subst h0
    obtain ⟨val, q1, q2⟩ := c0
    obtain rfl : u = (.int 40) := (Option.some.inj (h.symm.trans (by rfl))).symm ▸ rfl
    exact ⟨val, _, PySem.W.mg_of X G q1, q2, rfl⟩
  rw [List.lookup_cons, show (n == "MOST_STAVES") = false from beq_eq_false_iff_ne.mpr h0] at h
  by_cases h1 : n = "MOST_BOUGHS"
  · subst h1
    obtain ⟨val, q1, q2⟩ := c1
    obtain rfl : u = (.int 30) := (Option.some.inj (h.symm.trans (by rfl))).symm ▸ rfl
    exact ⟨val, _, PySem.W.mg_of X G q1, q2, rfl⟩
  rw [List.lookup_cons, show (n == "MOST_BOUGHS") = false from beq_eq_false_iff_ne.mpr h1] at h
  by_cases h2 : n = "MOST_APART"
  · subst h2
    obtain ⟨val, q1, q2⟩ := c2
    obtain rfl : u = (.int 12) := (Option.some.inj (h.symm.trans (by rfl))).symm ▸ rfl
    exact ⟨val, _, PySem.W.mg_of X G q1, q2, rfl⟩
  rw [List.lookup_cons, show (n == "MOST_APART") = false from beq_eq_false_iff_ne.mpr h2] at h
  by_cases h3 : n = "MOST_CROSSED"
  · subst h3
    obtain ⟨val, q1, q2⟩ := c3
    obtain rfl : u = (.int 6) := (Option.some.inj (h.symm.trans (by rfl))).symm ▸ rfl
    exact ⟨val, _, PySem.W.mg_of X G q1, q2, rfl⟩
  rw [List.lookup_cons, show (n == "MOST_CROSSED") = false from beq_eq_false_iff_ne.mpr h3] at h
  by_cases h4 : n = "FIGURES"
  · subst h4
    obtain ⟨val, q1, q2⟩ := c4
    obtain rfl : u = (.str "0123456789") := (Option.some.inj (h.symm.trans (by rfl))).symm ▸ rfl
    exact ⟨val, _, PySem.W.mg_of X G q1, q2, rfl⟩
  rw [List.lookup_cons, show (n == "FIGURES") = false from beq_eq_false_iff_ne.mpr h4] at h
  by_cases h5 : n = "MOST_NUMBERS"
  · subst h5
    obtain ⟨val, q1, q2⟩ := c5
    obtain rfl : u = (.int 40) := (Option.some.inj (h.symm.trans (by rfl))).symm ▸ rfl
    exact ⟨val, _, PySem.W.mg_of X G q1, q2, rfl⟩
  rw [List.lookup_cons, show (n == "MOST_NUMBERS") = false from beq_eq_false_iff_ne.mpr h5] at h
  cases h
theorem top_mk {P : Program} {w : World} {K : PySem.W.Frag} {h : Heap} {mg : Str → Option Value} (X : K.In h) (G : h.Ns mainGlobals mg)
  (f0 : Cw.FctD K "made_work" (topS 15))
  (f1 : Cw.FctD K "staves_in" (topS 16))
  (f2 : Cw.FctD K "far_end" (topS 17))
  (f3 : Cw.FctD K "work_by" (topS 18))
  (f4 : Cw.FctD K "made_tree" (topS 21))
  (f5 : Cw.FctD K "work_from" (topS 23))
  (f6 : Cw.FctD K "fits_work" (topS 25))
  (f7 : Cw.FctD K "put_clasp" (topS 26))
  (f8 : Cw.FctD K "reclasped" (topS 27))
  (f9 : Cw.FctD K "least_pair" (topS 28))
  (f10 : Cw.FctD K "all_deeds" (topS 29))
  (f11 : Cw.FctD K "look_alike" (topS 31))
  (f12 : Cw.FctD K "walked_ends" (topS 32))
  (f13 : Cw.FctD K "told_way" (topS 33))
  (f14 : Cw.FctD K "thread_of" (topS 34))
  (f15 : Cw.FctD K "threads" (topS 35))
  (f16 : Cw.FctD K "thread_score" (topS 36))
  (f17 : Cw.FctD K "apart_by" (topS 37))
  (f18 : Cw.FctD K "nearer_deeds" (topS 39))
  (f19 : Cw.FctD K "judged_paper" (topS 40))
  (f20 : Cw.FctD K "lack_of" (topS 44))
  (f21 : Cw.FctD K "lacks_of" (topS 45))
  (f22 : Cw.FctD K "is_mixed" (topS 46))
  (f23 : Cw.FctD K "shuffled_many" (topS 47))
  (f24 : Cw.FctD K "many_by" (topS 48))
  (f25 : Cw.FctD K "look_how_far" (topS 49))
  (f26 : Cw.FctD K "fewest_many" (topS 50))
  (f27 : Cw.FctD K "shared_by" (topS 52))
  (f28 : Cw.FctD K "reach_over" (topS 54))
  (f29 : Cw.FctD K "reach_back" (topS 55))
  (f30 : Cw.FctD K "strong_by" (topS 56))
  (f31 : Cw.FctD K "parts_within" (topS 57))
  (f32 : Cw.FctD K "kind_of_parts" (topS 58))
  (f33 : Cw.FctD K "nest_at" (topS 59))
  (f34 : Cw.FctD K "line_of" (topS 61))
  (f35 : Cw.FctD K "is_crossed" (topS 62))
  (f36 : Cw.FctD K "is_minus" (topS 63))
  (f37 : Cw.FctD K "gather_needed" (topS 64))
  (f38 : Cw.FctD K "needed_turns" (topS 65))
  (f39 : Cw.FctD K "read_stave" (topS 68))
  (f40 : Cw.FctD K "read_work" (topS 69))
  (f41 : Cw.FctD K "row_numbered" (topS 71))
  (f42 : Cw.FctD K "made_row" (topS 74))
  (f43 : Cw.FctD K "turn_about" (topS 75))
  (f44 : Cw.FctD K "_law_cell_at" (topS 77))
  (f45 : Cw.FctD K "_law_asked" (topS 78))
  (f46 : Cw.FctD K "_law_asked_else" (topS 79))
  (f47 : Cw.FctD K "_law_marks" (topS 80))
  (f48 : Cw.FctD K "law" (topS 81))
  (b0 : PySem.W.nsIn K mainGlobals "len" = some none) (b1 : PySem.W.nsIn K mainGlobals "abs" = some none) (b2 : PySem.W.nsIn K mainGlobals "min" = some none) (b3 : PySem.W.nsIn K mainGlobals "max" = some none) (b4 : PySem.W.nsIn K mainGlobals "int" = some none) (b5 : PySem.W.nsIn K mainGlobals "str" = some none) (b6 : PySem.W.nsIn K mainGlobals "sum" = some none) (b7 : PySem.W.nsIn K mainGlobals "any" = some none) (b8 : PySem.W.nsIn K mainGlobals "all" = some none) (b9 : PySem.W.nsIn K mainGlobals "sorted" = some none) (b10 : PySem.W.nsIn K mainGlobals "list" = some none) (b11 : PySem.W.nsIn K mainGlobals "tuple" = some none) (b12 : PySem.W.nsIn K mainGlobals "range" = some none) (b13 : PySem.W.nsIn K mainGlobals "isinstance" = some none) (b14 : PySem.W.nsIn K mainGlobals "enumerate" = some none) (b15 : PySem.W.nsIn K mainGlobals "reversed" = some none) (b16 : PySem.W.nsIn K mainGlobals "bool" = some none) (c0 : Cw.FctC K "MOST_STAVES" (.int 40)) (c1 : Cw.FctC K "MOST_BOUGHS" (.int 30)) (c2 : Cw.FctC K "MOST_APART" (.int 12)) (c3 : Cw.FctC K "MOST_CROSSED" (.int 6)) (c4 : Cw.FctC K "FIGURES" (.str "0123456789")) (c5 : Cw.FctC K "MOST_NUMBERS" (.int 40)) (v : PySem.W.nsIn K mainGlobals "ValueError" = some none) (e : tabOk K excs excs tab = true) : Top (mmOf P w K excs) mg ds consts excs (isxOf tab) :=
  ⟨top_fns X G f0 f1 f2 f3 f4 f5 f6 f7 f8 f9 f10 f11 f12 f13 f14 f15 f16 f17 f18 f19 f20 f21 f22 f23 f24 f25 f26 f27 f28 f29 f30 f31 f32 f33 f34 f35 f36 f37 f38 f39 f40 f41 f42 f43 f44 f45 f46 f47 f48, top_blt X G b0 b1 b2 b3 b4 b5 b6 b7 b8 b9 b10 b11 b12 b13 b14 b15 b16, top_con X G c0 c1 c2 c3 c4 c5, top_exs X G e, top_exf X G e v⟩
end G56

set_option Elab.async false
set_option linter.all false
set_option maxRecDepth 100000
set_option maxHeartbeats 4000000
namespace G56
open Cw
abbrev Cn (k : Nat) : Cl := ⟨run ds 500 (isxOf tab) k, 500, isxOf tab⟩
theorem ltI {st : Sto} {i j : Int} : ltU st (.int i) (.int j) = some (decide (i < j)) := rfl
theorem eqI {st : Sto} {i j : Int} : eqU st (.int i) (.int j) = some (decide (i = j)) := by
  have : decide (L2.V.int i = L2.V.int j) = decide (i = j) := by
    by_cases h : i = j
    · subst h; simp
    · rw [decide_eq_false h, decide_eq_false (fun z => h (L2.V.int.inj z))]
  rw [← this]
  rfl
def isExc (c : Nat) (x : M U) : Bool := match x with
  | some (.exc c' _) => c' == c
  | _ => false
theorem isExc_of {c : Nat} {x : M U} (h : isExc c x = true) : ∃ st, x = some (.exc c st) := by
  unfold isExc at h
  split at h
  · rename_i c' st
    rw [beq_iff_eq.mp h]
    exact ⟨st, rfl⟩
  · cases h
theorem pexc {k f c : Nat} {d : Cw.Def} {us : List U} (hd : ds[f]? = some d) (hp : d.pu = true) (hl : us.length = d.np) (hf : flats us = true) (h : isExc c (bodyU (Cn k) d us []) = true) (st : Sto) : run ds 500 (isxOf tab) (k + 1) f us st = some (.exc c st) := by
  obtain ⟨s, e⟩ := isExc_of h
  rw [run, hd]
  simp only [hl, hp, if_true]
  unfold purU
  rw [if_pos hf, e]
theorem pok {k f : Nat} {d : Cw.Def} {us : List U} {u : U} {s : Sto} (hd : ds[f]? = some d) (hp : d.pu = true) (hl : us.length = d.np) (hf : flats us = true) (h : bodyU (Cn k) d us [] = some (.ok u s)) (hu : ∀ i, u ≠ .ref i) (hfl : flat u = true) (st : Sto) : run ds 500 (isxOf tab) (k + 1) f us st = some (.ok u st) := by
  rw [run, hd]
  simp only [hl, hp, if_true]
  unfold purU
  rw [if_pos hf, h]
  cases u <;> first | exact absurd rfl (hu _) | (simp only [outP]; rw [if_pos hfl])
/-- a number tells but by its rest -/
theorem a0 (n : Int) (h : 0 ≤ n) : isExc 1 (bodyU (Cn 27) d__law_asked [.int 0, .int n] []) = true := by
  have c0 : run ds 500 (isxOf tab) 27 0 [.tup [.int 0, .int 1, .int (2 + n)]] [] = some (.exc 1 []) := pexc rfl rfl rfl rfl (by simp [isExc, bodyU, d_made_work, execs, exec, ev, evs, M.bind, M.st, tst, cmpU, bltU, seqU, binU, setT, ltI, eqI, LIM]) []
  simp [isExc, bodyU, d__law_asked, execs, exec, ev, evs, M.bind, M.st, tst, cmpU, bltU, seqU, binU, setT, ltI, eqI, LIM, c0]
theorem a1 (n : Int) (h : 0 ≤ n) : isExc 2 (bodyU (Cn 27) d__law_asked [.int 1, .int n] []) = true := by
  have c0 : run ds 500 (isxOf tab) 26 6 [.tup [.int 0, .int 1], .tup [.int n, .int n]] [] = some (.ok (.bl false) []) := by
    have e1 : ¬ (n < 0) := by omega
    refine pok rfl rfl rfl rfl (s := []) ?_ (fun i z => by cases z) rfl []
    by_cases e2 : (2 : Int) ≤ n
    · simp [bodyU, d_fits_work, execs, exec, ev, evs, M.bind, M.st, tst, cmpU, bltU, seqU, setT, setVs, ltI, eqI, e1, e2]
    · have : n = 0 ∨ n = 1 := by omega
      rcases this with rfl | rfl <;> rfl
  have c1 : run ds 500 (isxOf tab) 27 8 [.tup [.int 0, .int 1], .tup [.int n, .int n]] [] = some (.exc 2 []) := pexc rfl rfl rfl rfl (by simp [isExc, bodyU, d_reclasped, execs, exec, ev, evs, M.bind, M.st, tst, c0]) []
  simp [isExc, bodyU, d__law_asked, execs, exec, ev, evs, M.bind, M.st, tst, cmpU, bltU, seqU, binU, setT, ltI, eqI, LIM, c1]
theorem a3 (n : Int) (h : 0 ≤ n) : isExc 4 (bodyU (Cn 27) d__law_asked [.int 3, .int n] []) = true := by
  have e1 : ¬ (2 + n < 0) := by omega
  have e2 : (2 : Int) ≤ 2 + n := by omega
  have c1 : run ds 500 (isxOf tab) 27 43 [.tup [.int 1, .int (-2)], .int 0, .int (2 + n)] [] = some (.exc 4 []) := pexc rfl rfl rfl rfl (by simp [isExc, bodyU, d_turn_about, execs, exec, ev, evs, M.bind, M.st, tst, cmpU, bltU, seqU, ltI, eqI, e1, e2]) []
  simp [isExc, bodyU, d__law_asked, execs, exec, ev, evs, M.bind, M.st, tst, cmpU, bltU, seqU, binU, setT, ltI, eqI, LIM, c1]

theorem rest2 (n : Int) : bodyU (Cn 27) d__law_asked [.int 2, .int n] [] = bodyU (Cn 27) d__law_asked [.int 2, .int (n % 2)] [] := by
  simp [bodyU, d__law_asked, execs, exec, ev, evs, M.bind, M.st, tst, cmpU, binU, ltI, eqI, LIM]
  generalize run ds 500 (isxOf tab) 27 42 [U.ref 0] [O.lst [U.int 1, U.int 2, U.int (-1 - n % 2)]] = z
  rcases z with _ | ⟨a, s⟩ | ⟨c, s⟩ <;> simp
theorem rest5 (n : Int) : bodyU (Cn 27) d__law_asked [.int 5, .int n] [] = bodyU (Cn 27) d__law_asked [.int 5, .int (n % 9)] [] := by
  simp [bodyU, d__law_asked, execs, exec, ev, evs, M.bind, M.st, tst, cmpU, binU, ltI, eqI, LIM]
  generalize rgArgs [U.int (4 + 2 * (n % 9))] = y
  rcases y with _ | ⟨a, b⟩
  · simp
  · simp
    generalize run ds 500 (isxOf tab) 27 17 [U.tup [U.int 0, U.int 1], U.tup (rgL a b)] [] = z
    rcases z with _ | ⟨a, s⟩ | ⟨c, s⟩ <;> simp
theorem rest8 (n : Int) : bodyU (Cn 27) d__law_asked_else [.int 8, .int n] [] = bodyU (Cn 27) d__law_asked_else [.int 8, .int (n % 5)] [] := by
  simp [bodyU, d__law_asked_else, execs, exec, ev, evs, M.bind, M.st, tst, cmpU, binU, ltI, eqI, LIM]
  by_cases hc : 1 ≤ 1 + n % 5 ∧ 1 + n % 5 ≤ 1000
  · simp [hc]
    generalize run ds 500 (isxOf tab) 27 19 [U.tup [U.int 0, U.int 1], U.tup [U.int 1, U.int 0], U.tup [U.tup [], U.tup (List.replicate (1 + n % 5).toNat (U.tup [U.int 0, U.int 1]))]] [] = z
    rcases z with _ | ⟨a, s⟩ | ⟨c, s⟩ <;> simp
  · simp [hc]
theorem rest9 (n : Int) : bodyU (Cn 27) d__law_asked_else [.int 9, .int n] [] = bodyU (Cn 27) d__law_asked_else [.int 9, .int (n % 4)] [] := by
  simp [bodyU, d__law_asked_else, execs, exec, ev, evs, M.bind, M.st, tst, cmpU, binU, ltI, eqI, LIM, idxU]
  generalize L2.atI [U.tup [U.int 2, U.int 4, U.int 1, U.int 3], U.tup [U.int (-3), U.int 1, U.int 4, U.int (-2)], U.tup [U.int 3, U.int (-1), U.int 4, U.int 2], U.tup [U.int 2, U.int 4, U.int (-1), U.int 3]] (n % 4) = y
  rcases y with _ | v
  · simp
  · simp
    generalize run ds 500 (isxOf tab) 27 38 [v] [O.lst [U.tup [U.int 2, U.int 4, U.int 1, U.int 3], U.tup [U.int (-3), U.int 1, U.int 4, U.int (-2)], U.tup [U.int 3, U.int (-1), U.int 4, U.int 2], U.tup [U.int 2, U.int 4, U.int (-1), U.int 3]]] = z
    rcases z with _ | ⟨a, s⟩ | ⟨c, s⟩ <;> simp
theorem rest10 (n : Int) : bodyU (Cn 27) d__law_asked_else [.int 10, .int n] [] = bodyU (Cn 27) d__law_asked_else [.int 10, .int (n % 6)] [] := by
  simp [bodyU, d__law_asked_else, execs, exec, ev, evs, M.bind, M.st, tst, cmpU, binU, ltI, eqI, LIM, idxU]
  generalize L2.atI [U.str (PySem.Str.ofString ""), U.str (PySem.Str.ofString "[0 2]"), U.str (PySem.Str.ofString "(0 0)"), U.str (PySem.Str.ofString "["), U.str (PySem.Str.ofString "[0]  [1]"), U.str (PySem.Str.ofString "[01]")] (n % 6) = y
  rcases y with _ | v
  · simp
  · simp
    generalize run ds 500 (isxOf tab) 27 40 [v] [O.lst [U.str (PySem.Str.ofString ""), U.str (PySem.Str.ofString "[0 2]"), U.str (PySem.Str.ofString "(0 0)"), U.str (PySem.Str.ofString "["), U.str (PySem.Str.ofString "[0]  [1]"), U.str (PySem.Str.ofString "[01]")]] = z
    rcases z with _ | ⟨a, s⟩ | ⟨c, s⟩ <;> simp
theorem a2 (n : Int) : isExc 3 (bodyU (Cn 27) d__law_asked [.int 2, .int n] []) = true := by
  rw [rest2]
  have : n % 2 = 0 ∨ n % 2 = 1 := by omega
  rcases this with h | h <;> rw [h] <;> decide +kernel
theorem a5 (n : Int) : isExc 6 (bodyU (Cn 27) d__law_asked [.int 5, .int n] []) = true := by
  rw [rest5]
  have : n % 9 = 0 ∨ n % 9 = 1 ∨ n % 9 = 2 ∨ n % 9 = 3 ∨ n % 9 = 4 ∨ n % 9 = 5 ∨ n % 9 = 6 ∨ n % 9 = 7 ∨ n % 9 = 8 := by omega
  rcases this with h | h | h | h | h | h | h | h | h <;> rw [h] <;> decide +kernel
theorem a6 (n : Int) : isExc 7 (bodyU (Cn 27) d__law_asked_else [.int 6, .int n] []) = true := by kernel_rfl
def isOkI (i : Int) (x : M U) : Bool := match x with
  | some (.ok (.int j) _) => decide (j = i)
  | _ => false
theorem isOkI_of {i : Int} {x : M U} (h : isOkI i x = true) : ∃ s, x = some (.ok (.int i) s) := by
  unfold isOkI at h
  split at h
  · rename_i j s
    rw [decide_eq_true_eq] at h
    rw [h]
    exact ⟨s, rfl⟩
  · cases h
theorem a7 (n : Int) (h : 0 ≤ n) : isExc 8 (bodyU (Cn 27) d__law_asked_else [.int 7, .int n] []) = true := by
  have c0 : run ds 500 (isxOf tab) 26 26 [.tup [.int 0, .int 1], .tup [.int 1, .int 0]] [] = some (.ok (.int 1) []) := by
    obtain ⟨s, e⟩ := isOkI_of (i := 1) (x := bodyU (Cn 25) d_fewest_many [.tup [.int 0, .int 1], .tup [.int 1, .int 0]] []) (by decide +kernel)
    exact pok rfl rfl rfl rfl e (fun i z => by cases z) rfl []
  have e1 : ¬ (1 + n < 0) := by omega
  have e2 : (1 : Int) ≤ 1 + n := by omega
  have c1 : run ds 500 (isxOf tab) 27 41 [.tup [.int 0, .int 1], .tup [.int 1, .int 0], .int (1 + n)] [] = some (.exc 8 []) := pexc rfl rfl rfl rfl (by simp [isExc, bodyU, d_row_numbered, execs, exec, ev, evs, M.bind, M.st, tst, cmpU, setT, ltI, eqI, c0, e1, e2]) []
  simp [isExc, bodyU, d__law_asked_else, execs, exec, ev, evs, M.bind, M.st, tst, cmpU, bltU, seqU, binU, setT, ltI, eqI, LIM, c1]
theorem a4 (n : Int) (h : 0 ≤ n) : isExc 5 (bodyU (Cn 27) d__law_asked [.int 4, .int n] []) = true := by
  have e1 : ¬ (3 + n ≤ 1) := by omega
  have e2 : ¬ (3 + n < 2) := by omega
  have e3 : 2 < 3 + n := by omega
  have c1 : isExc 5 (run ds 500 (isxOf tab) 27 4 [.ref 0] [.lst [.int 2, .int (3 + n)]]) = true := by
    rw [run]
    simp [isExc, ds, bodyU, d_made_tree, execs, exec, ev, evs, evI, M.bind, M.st, tst, cmpU, bltU, seqU, seqL, binU, setT, setVs, enumU, forL, item, idxU, subU, L2.atI, L2.ixN, ltI, eqI, LIM, e1, e2, e3]
  obtain ⟨s, e⟩ := isExc_of c1
  simp [isExc, bodyU, d__law_asked, execs, exec, ev, evs, M.bind, M.st, tst, cmpU, bltU, seqU, binU, setT, ltI, eqI, LIM, e]
theorem a8 (n : Int) : isExc 9 (bodyU (Cn 27) d__law_asked_else [.int 8, .int n] []) = true := by
  rw [rest8]
  have : n % 5 = 0 ∨ n % 5 = 1 ∨ n % 5 = 2 ∨ n % 5 = 3 ∨ n % 5 = 4 := by omega
  rcases this with h | h | h | h | h <;> rw [h] <;> decide +kernel
theorem a9 (n : Int) : isExc 10 (bodyU (Cn 27) d__law_asked_else [.int 9, .int n] []) = true := by
  rw [rest9]
  have : n % 4 = 0 ∨ n % 4 = 1 ∨ n % 4 = 2 ∨ n % 4 = 3 := by omega
  rcases this with h | h | h | h <;> rw [h] <;> decide +kernel
theorem a10 (n : Int) : isExc 11 (bodyU (Cn 27) d__law_asked_else [.int 10, .int n] []) = true := by
  rw [rest10]
  have : n % 6 = 0 ∨ n % 6 = 1 ∨ n % 6 = 2 ∨ n % 6 = 3 ∨ n % 6 = 4 ∨ n % 6 = 5 := by omega
  rcases this with h | h | h | h | h | h <;> rw [h] <;> decide +kernel
end G56

set_option Elab.async false
set_option linter.all false
set_option maxRecDepth 100000
set_option maxHeartbeats 4000000
namespace G56
open Cw
theorem plst {k f i : Nat} {d : Cw.Def} {us l : List U} {s : Sto} (hd : ds[f]? = some d) (hp : d.pu = true) (hl : us.length = d.np) (hf : flats us = true) (h : bodyU (Cn k) d us [] = some (.ok (.ref i) s)) (hs : s[i]? = some (.lst l)) (hfl : flats l = true) (st : Sto) : run ds 500 (isxOf tab) (k + 1) f us st = some (.ok (.ref st.length) (st ++ [.lst l])) := by
  rw [run, hd]
  simp only [hl, hp, if_true]
  unfold purU
  rw [if_pos hf, h]
  simp only [outP, hs]
  rw [if_pos hfl]
def isOkL (l : List Bool) (x : M U) : Bool := match x with
  | some (.ok (.ref i) s) => match s[i]? with
    | some (.lst us) => match blsU us with
      | some bs => decide (bs = l)
      | none => false
    | _ => false
  | _ => false
theorem bls_of : ∀ {us : List U} {bs : List Bool}, blsU us = some bs → us = bs.map U.bl
  | [], bs, h => by cases h; rfl
  | u :: us, bs, h => by
    cases u <;> first | (cases h; done) | skip
    rw [blsU] at h
    split at h
    · rename_i bs' e
      cases h
      rw [bls_of e]
      rfl
    · cases h
theorem flats_bl : ∀ l : List Bool, flats (l.map U.bl) = true
  | [] => rfl
  | b :: l => by
    rw [List.map_cons, flats, flats_bl l]
    rfl
theorem isOkL_of {l : List Bool} {k f : Nat} {d : Cw.Def} {us : List U} (hd : ds[f]? = some d) (hp : d.pu = true) (hl : us.length = d.np) (hf : flats us = true) (h : isOkL l (bodyU (Cn k) d us []) = true) (st : Sto) : run ds 500 (isxOf tab) (k + 1) f us st = some (.ok (.ref st.length) (st ++ [.lst (l.map U.bl)])) := by
  unfold isOkL at h
  split at h
  · rename_i i s e
    split at h
    · rename_i us' e1
      split at h
      · rename_i bs e2
        rw [decide_eq_true_eq] at h
        subst h
        have := bls_of e2
        subst this
        exact plst hd hp hl hf e e1 (flats_bl _) st
      · cases h
    · cases h
  · cases h
def due (w : Int) : List Bool := (List.range 11).map (fun k => decide (w = (k : Nat))) ++ [true]
theorem m0 (n : Int) (h : 0 ≤ n) (st : Sto) : run ds 500 (isxOf tab) 29 47 [.int 0, .int n] st = some (.ok (.ref st.length) (st ++ [.lst ((due 0).map U.bl)])) := by
  have c : run ds 500 (isxOf tab) 28 45 [.int 0, .int n] [.lst []] = some (.exc 1 [.lst []]) := pexc rfl rfl rfl rfl (a0 n h) _
  have x0 : isxOf tab 1 0 = some true := rfl
  have x1 : isxOf tab 1 1 = some true := rfl
  have x2 : isxOf tab 1 2 = some false := rfl
  have x3 : isxOf tab 1 3 = some false := rfl
  have x4 : isxOf tab 1 4 = some false := rfl
  have x5 : isxOf tab 1 5 = some false := rfl
  have x6 : isxOf tab 1 6 = some false := rfl
  have x7 : isxOf tab 1 7 = some false := rfl
  have x8 : isxOf tab 1 8 = some false := rfl
  have x9 : isxOf tab 1 9 = some false := rfl
  have x10 : isxOf tab 1 10 = some false := rfl
  have x11 : isxOf tab 1 11 = some false := rfl
  refine isOkL_of rfl rfl rfl rfl ?_ st
  simp [isOkL, bodyU, d__law_marks, execs, exec, ev, evs, M.bind, M.st, tst, cmpU, setT, ltI, eqI, c, inS, cleanE, cleanS, cleanO, cleanU, cleanUs, cleanF, mthU, rcv, LIM, blsU, x0, x1, x2, x3, x4, x5, x6, x7, x8, x9, x10, x11]
  try decide
theorem m1 (n : Int) (h : 0 ≤ n) (st : Sto) : run ds 500 (isxOf tab) 29 47 [.int 1, .int n] st = some (.ok (.ref st.length) (st ++ [.lst ((due 1).map U.bl)])) := by
  have c : run ds 500 (isxOf tab) 28 45 [.int 1, .int n] [.lst []] = some (.exc 2 [.lst []]) := pexc rfl rfl rfl rfl (a1 n h) _
  have x0 : isxOf tab 2 0 = some true := rfl
  have x1 : isxOf tab 2 1 = some false := rfl
  have x2 : isxOf tab 2 2 = some true := rfl
  have x3 : isxOf tab 2 3 = some false := rfl
  have x4 : isxOf tab 2 4 = some false := rfl
  have x5 : isxOf tab 2 5 = some false := rfl
  have x6 : isxOf tab 2 6 = some false := rfl
  have x7 : isxOf tab 2 7 = some false := rfl
  have x8 : isxOf tab 2 8 = some false := rfl
  have x9 : isxOf tab 2 9 = some false := rfl
  have x10 : isxOf tab 2 10 = some false := rfl
  have x11 : isxOf tab 2 11 = some false := rfl
  refine isOkL_of rfl rfl rfl rfl ?_ st
  simp [isOkL, bodyU, d__law_marks, execs, exec, ev, evs, M.bind, M.st, tst, cmpU, setT, ltI, eqI, c, inS, cleanE, cleanS, cleanO, cleanU, cleanUs, cleanF, mthU, rcv, LIM, blsU, x0, x1, x2, x3, x4, x5, x6, x7, x8, x9, x10, x11]
  try decide
theorem m2 (n : Int) (h : 0 ≤ n) (st : Sto) : run ds 500 (isxOf tab) 29 47 [.int 2, .int n] st = some (.ok (.ref st.length) (st ++ [.lst ((due 2).map U.bl)])) := by
  have c : run ds 500 (isxOf tab) 28 45 [.int 2, .int n] [.lst []] = some (.exc 3 [.lst []]) := pexc rfl rfl rfl rfl (a2 n) _
  have x0 : isxOf tab 3 0 = some true := rfl
  have x1 : isxOf tab 3 1 = some false := rfl
  have x2 : isxOf tab 3 2 = some false := rfl
  have x3 : isxOf tab 3 3 = some true := rfl
  have x4 : isxOf tab 3 4 = some false := rfl
  have x5 : isxOf tab 3 5 = some false := rfl
  have x6 : isxOf tab 3 6 = some false := rfl
  have x7 : isxOf tab 3 7 = some false := rfl
  have x8 : isxOf tab 3 8 = some false := rfl
  have x9 : isxOf tab 3 9 = some false := rfl
  have x10 : isxOf tab 3 10 = some false := rfl
  have x11 : isxOf tab 3 11 = some false := rfl
  refine isOkL_of rfl rfl rfl rfl ?_ st
  simp [isOkL, bodyU, d__law_marks, execs, exec, ev, evs, M.bind, M.st, tst, cmpU, setT, ltI, eqI, c, inS, cleanE, cleanS, cleanO, cleanU, cleanUs, cleanF, mthU, rcv, LIM, blsU, x0, x1, x2, x3, x4, x5, x6, x7, x8, x9, x10, x11]
  try decide
theorem m3 (n : Int) (h : 0 ≤ n) (st : Sto) : run ds 500 (isxOf tab) 29 47 [.int 3, .int n] st = some (.ok (.ref st.length) (st ++ [.lst ((due 3).map U.bl)])) := by
  have c : run ds 500 (isxOf tab) 28 45 [.int 3, .int n] [.lst []] = some (.exc 4 [.lst []]) := pexc rfl rfl rfl rfl (a3 n h) _
  have x0 : isxOf tab 4 0 = some true := rfl
  have x1 : isxOf tab 4 1 = some false := rfl
  have x2 : isxOf tab 4 2 = some false := rfl
  have x3 : isxOf tab 4 3 = some false := rfl
  have x4 : isxOf tab 4 4 = some true := rfl
  have x5 : isxOf tab 4 5 = some false := rfl
  have x6 : isxOf tab 4 6 = some false := rfl
  have x7 : isxOf tab 4 7 = some false := rfl
  have x8 : isxOf tab 4 8 = some false := rfl
  have x9 : isxOf tab 4 9 = some false := rfl
  have x10 : isxOf tab 4 10 = some false := rfl
  have x11 : isxOf tab 4 11 = some false := rfl
  refine isOkL_of rfl rfl rfl rfl ?_ st
  simp [isOkL, bodyU, d__law_marks, execs, exec, ev, evs, M.bind, M.st, tst, cmpU, setT, ltI, eqI, c, inS, cleanE, cleanS, cleanO, cleanU, cleanUs, cleanF, mthU, rcv, LIM, blsU, x0, x1, x2, x3, x4, x5, x6, x7, x8, x9, x10, x11]
  try decide
theorem m4 (n : Int) (h : 0 ≤ n) (st : Sto) : run ds 500 (isxOf tab) 29 47 [.int 4, .int n] st = some (.ok (.ref st.length) (st ++ [.lst ((due 4).map U.bl)])) := by
  have c : run ds 500 (isxOf tab) 28 45 [.int 4, .int n] [.lst []] = some (.exc 5 [.lst []]) := pexc rfl rfl rfl rfl (a4 n h) _
  have x0 : isxOf tab 5 0 = some true := rfl
  have x1 : isxOf tab 5 1 = some false := rfl
  have x2 : isxOf tab 5 2 = some false := rfl
  have x3 : isxOf tab 5 3 = some false := rfl
  have x4 : isxOf tab 5 4 = some false := rfl
  have x5 : isxOf tab 5 5 = some true := rfl
  have x6 : isxOf tab 5 6 = some false := rfl
  have x7 : isxOf tab 5 7 = some false := rfl
  have x8 : isxOf tab 5 8 = some false := rfl
  have x9 : isxOf tab 5 9 = some false := rfl
  have x10 : isxOf tab 5 10 = some false := rfl
  have x11 : isxOf tab 5 11 = some false := rfl
  refine isOkL_of rfl rfl rfl rfl ?_ st
  simp [isOkL, bodyU, d__law_marks, execs, exec, ev, evs, M.bind, M.st, tst, cmpU, setT, ltI, eqI, c, inS, cleanE, cleanS, cleanO, cleanU, cleanUs, cleanF, mthU, rcv, LIM, blsU, x0, x1, x2, x3, x4, x5, x6, x7, x8, x9, x10, x11]
  try decide
theorem m5 (n : Int) (h : 0 ≤ n) (st : Sto) : run ds 500 (isxOf tab) 29 47 [.int 5, .int n] st = some (.ok (.ref st.length) (st ++ [.lst ((due 5).map U.bl)])) := by
  have c : run ds 500 (isxOf tab) 28 45 [.int 5, .int n] [.lst []] = some (.exc 6 [.lst []]) := pexc rfl rfl rfl rfl (a5 n) _
  have x0 : isxOf tab 6 0 = some true := rfl
  have x1 : isxOf tab 6 1 = some false := rfl
  have x2 : isxOf tab 6 2 = some false := rfl
  have x3 : isxOf tab 6 3 = some false := rfl
  have x4 : isxOf tab 6 4 = some false := rfl
  have x5 : isxOf tab 6 5 = some false := rfl
  have x6 : isxOf tab 6 6 = some true := rfl
  have x7 : isxOf tab 6 7 = some false := rfl
  have x8 : isxOf tab 6 8 = some false := rfl
  have x9 : isxOf tab 6 9 = some false := rfl
  have x10 : isxOf tab 6 10 = some false := rfl
  have x11 : isxOf tab 6 11 = some false := rfl
  refine isOkL_of rfl rfl rfl rfl ?_ st
  simp [isOkL, bodyU, d__law_marks, execs, exec, ev, evs, M.bind, M.st, tst, cmpU, setT, ltI, eqI, c, inS, cleanE, cleanS, cleanO, cleanU, cleanUs, cleanF, mthU, rcv, LIM, blsU, x0, x1, x2, x3, x4, x5, x6, x7, x8, x9, x10, x11]
  try decide
theorem m6 (n : Int) (h : 0 ≤ n) (st : Sto) : run ds 500 (isxOf tab) 29 47 [.int 6, .int n] st = some (.ok (.ref st.length) (st ++ [.lst ((due 6).map U.bl)])) := by
  have c : run ds 500 (isxOf tab) 28 46 [.int 6, .int n] [.lst []] = some (.exc 7 [.lst []]) := pexc rfl rfl rfl rfl (a6 n) _
  have x0 : isxOf tab 7 0 = some true := rfl
  have x1 : isxOf tab 7 1 = some false := rfl
  have x2 : isxOf tab 7 2 = some false := rfl
  have x3 : isxOf tab 7 3 = some false := rfl
  have x4 : isxOf tab 7 4 = some false := rfl
  have x5 : isxOf tab 7 5 = some false := rfl
  have x6 : isxOf tab 7 6 = some false := rfl
  have x7 : isxOf tab 7 7 = some true := rfl
  have x8 : isxOf tab 7 8 = some false := rfl
  have x9 : isxOf tab 7 9 = some false := rfl
  have x10 : isxOf tab 7 10 = some false := rfl
  have x11 : isxOf tab 7 11 = some false := rfl
  refine isOkL_of rfl rfl rfl rfl ?_ st
  simp [isOkL, bodyU, d__law_marks, execs, exec, ev, evs, M.bind, M.st, tst, cmpU, setT, ltI, eqI, c, inS, cleanE, cleanS, cleanO, cleanU, cleanUs, cleanF, mthU, rcv, LIM, blsU, x0, x1, x2, x3, x4, x5, x6, x7, x8, x9, x10, x11]
  try decide
theorem m7 (n : Int) (h : 0 ≤ n) (st : Sto) : run ds 500 (isxOf tab) 29 47 [.int 7, .int n] st = some (.ok (.ref st.length) (st ++ [.lst ((due 7).map U.bl)])) := by
  have c : run ds 500 (isxOf tab) 28 46 [.int 7, .int n] [.lst []] = some (.exc 8 [.lst []]) := pexc rfl rfl rfl rfl (a7 n h) _
  have x0 : isxOf tab 8 0 = some true := rfl
  have x1 : isxOf tab 8 1 = some false := rfl
  have x2 : isxOf tab 8 2 = some false := rfl
  have x3 : isxOf tab 8 3 = some false := rfl
  have x4 : isxOf tab 8 4 = some false := rfl
  have x5 : isxOf tab 8 5 = some false := rfl
  have x6 : isxOf tab 8 6 = some false := rfl
  have x7 : isxOf tab 8 7 = some false := rfl
  have x8 : isxOf tab 8 8 = some true := rfl
  have x9 : isxOf tab 8 9 = some false := rfl
  have x10 : isxOf tab 8 10 = some false := rfl
  have x11 : isxOf tab 8 11 = some false := rfl
  refine isOkL_of rfl rfl rfl rfl ?_ st
  simp [isOkL, bodyU, d__law_marks, execs, exec, ev, evs, M.bind, M.st, tst, cmpU, setT, ltI, eqI, c, inS, cleanE, cleanS, cleanO, cleanU, cleanUs, cleanF, mthU, rcv, LIM, blsU, x0, x1, x2, x3, x4, x5, x6, x7, x8, x9, x10, x11]
  try decide
theorem m8 (n : Int) (h : 0 ≤ n) (st : Sto) : run ds 500 (isxOf tab) 29 47 [.int 8, .int n] st = some (.ok (.ref st.length) (st ++ [.lst ((due 8).map U.bl)])) := by
  have c : run ds 500 (isxOf tab) 28 46 [.int 8, .int n] [.lst []] = some (.exc 9 [.lst []]) := pexc rfl rfl rfl rfl (a8 n) _
  have x0 : isxOf tab 9 0 = some true := rfl
  have x1 : isxOf tab 9 1 = some false := rfl
  have x2 : isxOf tab 9 2 = some false := rfl
  have x3 : isxOf tab 9 3 = some false := rfl
  have x4 : isxOf tab 9 4 = some false := rfl
  have x5 : isxOf tab 9 5 = some false := rfl
  have x6 : isxOf tab 9 6 = some false := rfl
  have x7 : isxOf tab 9 7 = some false := rfl
  have x8 : isxOf tab 9 8 = some false := rfl
  have x9 : isxOf tab 9 9 = some true := rfl
  have x10 : isxOf tab 9 10 = some false := rfl
  have x11 : isxOf tab 9 11 = some false := rfl
  refine isOkL_of rfl rfl rfl rfl ?_ st
  simp [isOkL, bodyU, d__law_marks, execs, exec, ev, evs, M.bind, M.st, tst, cmpU, setT, ltI, eqI, c, inS, cleanE, cleanS, cleanO, cleanU, cleanUs, cleanF, mthU, rcv, LIM, blsU, x0, x1, x2, x3, x4, x5, x6, x7, x8, x9, x10, x11]
  try decide
theorem m9 (n : Int) (h : 0 ≤ n) (st : Sto) : run ds 500 (isxOf tab) 29 47 [.int 9, .int n] st = some (.ok (.ref st.length) (st ++ [.lst ((due 9).map U.bl)])) := by
  have c : run ds 500 (isxOf tab) 28 46 [.int 9, .int n] [.lst []] = some (.exc 10 [.lst []]) := pexc rfl rfl rfl rfl (a9 n) _
  have x0 : isxOf tab 10 0 = some true := rfl
  have x1 : isxOf tab 10 1 = some false := rfl
  have x2 : isxOf tab 10 2 = some false := rfl
  have x3 : isxOf tab 10 3 = some false := rfl
  have x4 : isxOf tab 10 4 = some false := rfl
  have x5 : isxOf tab 10 5 = some false := rfl
  have x6 : isxOf tab 10 6 = some false := rfl
  have x7 : isxOf tab 10 7 = some false := rfl
  have x8 : isxOf tab 10 8 = some false := rfl
  have x9 : isxOf tab 10 9 = some false := rfl
  have x10 : isxOf tab 10 10 = some true := rfl
  have x11 : isxOf tab 10 11 = some false := rfl
  refine isOkL_of rfl rfl rfl rfl ?_ st
  simp [isOkL, bodyU, d__law_marks, execs, exec, ev, evs, M.bind, M.st, tst, cmpU, setT, ltI, eqI, c, inS, cleanE, cleanS, cleanO, cleanU, cleanUs, cleanF, mthU, rcv, LIM, blsU, x0, x1, x2, x3, x4, x5, x6, x7, x8, x9, x10, x11]
  try decide
theorem m10 (n : Int) (h : 0 ≤ n) (st : Sto) : run ds 500 (isxOf tab) 29 47 [.int 10, .int n] st = some (.ok (.ref st.length) (st ++ [.lst ((due 10).map U.bl)])) := by
  have c : run ds 500 (isxOf tab) 28 46 [.int 10, .int n] [.lst []] = some (.exc 11 [.lst []]) := pexc rfl rfl rfl rfl (a10 n) _
  have x0 : isxOf tab 11 0 = some true := rfl
  have x1 : isxOf tab 11 1 = some false := rfl
  have x2 : isxOf tab 11 2 = some false := rfl
  have x3 : isxOf tab 11 3 = some false := rfl
  have x4 : isxOf tab 11 4 = some false := rfl
  have x5 : isxOf tab 11 5 = some false := rfl
  have x6 : isxOf tab 11 6 = some false := rfl
  have x7 : isxOf tab 11 7 = some false := rfl
  have x8 : isxOf tab 11 8 = some false := rfl
  have x9 : isxOf tab 11 9 = some false := rfl
  have x10 : isxOf tab 11 10 = some false := rfl
  have x11 : isxOf tab 11 11 = some true := rfl
  refine isOkL_of rfl rfl rfl rfl ?_ st
  simp [isOkL, bodyU, d__law_marks, execs, exec, ev, evs, M.bind, M.st, tst, cmpU, setT, ltI, eqI, c, inS, cleanE, cleanS, cleanO, cleanU, cleanUs, cleanF, mthU, rcv, LIM, blsU, x0, x1, x2, x3, x4, x5, x6, x7, x8, x9, x10, x11]
  try decide
end G56

set_option Elab.async false
set_option linter.all false
set_option maxRecDepth 100000
set_option maxHeartbeats 8000000
namespace G56
open Cw
theorem cell_ok (ns : List Int) (k : Nat) (st : Sto) : run ds 500 (isxOf tab) 29 44 [.fl (ns.map U.int), .int k] st = some (.ok (.int (ns.getD k 0)) st) := by
  refine pok rfl rfl rfl ?_ (s := []) ?_ (fun i z => by cases z) rfl st
  · have : ∀ l : List Int, flats (l.map U.int) = true := by
      intro l
      induction l with
      | nil => rfl
      | cons a l ih => rw [List.map_cons, flats, ih]; rfl
    simp [flats, flat, this]
  · by_cases h : k < ns.length
    · have h1 : (k : Int) < ns.length := by omega
      have h2 : L2.atI (ns.map U.int) k = some (U.int (ns.getD k 0)) := by
        refine L2.atI_nat ?_
        rw [List.getElem?_map, List.getD_eq_getElem?_getD, List.getElem?_eq_getElem h]
        rfl
      simp [bodyU, d__law_cell_at, execs, exec, ev, evs, M.bind, M.st, tst, cmpU, bltU, seqU, seqL, ltI, h1, idxU, h2]
    · have h1 : ¬ (k : Int) < ns.length := by omega
      have h2 : ns.getD k 0 = 0 := by
        rw [List.getD_eq_getElem?_getD, List.getElem?_eq_none (by omega)]
        rfl
      rw [h2]
      simp [bodyU, d__law_cell_at, execs, exec, ev, evs, M.bind, M.st, tst, cmpU, bltU, seqU, seqL, ltI, h1]

theorem g0 (st : Sto) (x : O) (l : Sto) : (st ++ x :: l)[st.length]? = some x := by
  rw [List.getElem?_append_right (Nat.le_refl _), Nat.sub_self]
  rfl
theorem gs (st : Sto) (x y : O) (l : Sto) : (st ++ x :: l).set st.length y = st ++ y :: l := by
  rw [List.set_append_right _ _ (Nat.le_refl _), Nat.sub_self]
  rfl
def elt : CE := .comp (.cmp .eq (.var 1) (.var 4)) (.var 4) (.rng1 (.cst (.int 11)))
theorem due_ev (w : Int) (s c d k : Option U) (st : Sto) : ev (Cn 29) elt [s, some (.int w), c, d, k] st = some (.ok (.ref st.length) (st ++ [.lst ((List.range 11).map fun k => U.bl (decide (w = (k : Nat))))])) := by
  have r : rgI 0 11 = true := by decide
  simp [elt, ev, evI, M.bind, rng1U, r, compL, item, setT, ownT, wipeE, cmpU, eqI, g0, gs, LIM, List.range, List.range.loop]

theorem marks_ok (n : Int) (h : 0 ≤ n) (st : Sto) : ∀ w : Nat, w < 11 → run ds 500 (isxOf tab) 29 47 [.int w, .int n] st = some (.ok (.ref st.length) (st ++ [.lst ((due w).map U.bl)]))
  | 0, _ => m0 n h st
  | 1, _ => m1 n h st
  | 2, _ => m2 n h st
  | 3, _ => m3 n h st
  | 4, _ => m4 n h st
  | 5, _ => m5 n h st
  | 6, _ => m6 n h st
  | 7, _ => m7 n h st
  | 8, _ => m8 n h st
  | 9, _ => m9 n h st
  | 10, _ => m10 n h st
  | w + 11, hw => absurd hw (by omega)
theorem dats_bl (f : Nat → Option PySem.PyData) : ∀ l : List Bool, dats f (l.map U.bl) = some (l.map PySem.PyData.bool)
  | [] => rfl
  | b :: l => by
    rw [List.map_cons, dats, dats_bl f l]
    rfl
theorem dat_bl {st : Sto} {i : Nat} {l : List Bool} (h : st[i]? = some (.lst (l.map U.bl))) : datU st (.ref i) = some (.list (l.map PySem.PyData.bool)) := by
  show dat (datR st 6) (.ref i) = _
  rw [dat, datR]
  simp only [h]
  rw [dats_bl]
theorem ne_due {st : Sto} {i j : Nat} (w : Nat) (hw : w < 11) (h1 : st[i]? = some (.lst ((due w).map U.bl))) (h2 : st[j]? = some (.lst ((due w).map U.bl))) : cmpU .ne (.ref i) (.ref j) st = some (.ok (.bl false) st) := by
  have e : eqU st (.ref i) (.ref j) = some true := by
    unfold eqU
    simp only [sV, dat_bl h1, dat_bl h2]
    have : ∀ w : Nat, w < 11 → (PySem.SeqAt.shaped (.list ((due w).map PySem.PyData.bool)) = true ∧ PySem.PyData.eqv (.list ((due w).map PySem.PyData.bool)) (.list ((due w).map PySem.PyData.bool)) = true) := by decide +kernel
    obtain ⟨k1, k2⟩ := this w hw
    rw [if_pos ⟨k1, k1⟩, k2]
  unfold cmpU
  simp only [e]
  rfl
def lb : CSs := match d_law.body with
  | .cons (.for_ _ _ b) _ => b
  | _ => .nil
theorem ev_call {C : Cl} {f : Nat} {es : CEs} {env : Env} {st st1 : Sto} {us : List U} (h : evs C es env st = some (.ok us st1)) : ev C (.call f es) env st = C.call f us st1 := by
  rw [ev, h]
  rfl
theorem turn_ok (ns : List Int) (w : Nat) (hw : w < 11) (c d k : Option U) (st : Sto) : ∃ c' d' st', execs (Cn 29) lb [some (.fl (ns.map U.int)), some (.int w), c, d, k] st = some (.ok .nx [some (.fl (ns.map U.int)), some (.int w), c', d', k] st') := by
  have hn : (0 : Int) ≤ ns.getD w 0 % 10 ^ 30 := Int.emod_nonneg _ (by decide)
  generalize hx : ns.getD w 0 % 10 ^ 30 = n at hn
  have cell : (Cn 29).call 44 [.fl (ns.map U.int), .int w] st = some (.ok (.int (ns.getD w 0)) st) := cell_ok ns w st
  have h1 : exec (Cn 29) (.asg (.var 2) (.bin .mod (.call 44 (.cons (.var 0) (.cons (.var 1) .nil))) (.bin .pow (.cst (.int 10)) (.cst (.int 30))))) [some (.fl (ns.map U.int)), some (.int w), c, d, k] st = some (.ok .nx [some (.fl (ns.map U.int)), some (.int w), some (.int n), d, k] st) := by
    rw [exec, ev, ev_call (us := [.fl (ns.map U.int), .int w]) (st1 := st) rfl, cell]
    have e2 : ev (Cn 29) (.bin .pow (.cst (.int 10)) (.cst (.int 30))) [some (.fl (ns.map U.int)), some (.int w), c, d, k] st = some (.ok (.int (10 ^ 30)) st) := rfl
    simp only [M.bind, e2]
    have e3 : binU .mod (.int (ns.getD w 0)) (.int (10 ^ 30)) st = some (.ok (.int n) st) := by
      rw [← hx]
      rfl
    simp only [e3]
    rfl
  have h2 : exec (Cn 29) (.asg (.var 3) (.bin .add elt (.lst (.cons (.cst (.bl true)) .nil)))) [some (.fl (ns.map U.int)), some (.int w), some (.int n), d, k] st = some (.ok .nx [some (.fl (ns.map U.int)), some (.int w), some (.int n), some (.ref (st.length + 2)), k] (st ++ [.lst ((List.range 11).map fun k => U.bl (decide ((w : Int) = (k : Nat)))), .lst [.bl true], .lst ((due w).map U.bl)])) := by
    rw [exec, ev, due_ev]
    simp [M.bind, M.st, ev, evs, binU, LIM, setT, due]
  have m : ∀ s : Sto, (Cn 29).call 47 [.int w, .int n] s = some (.ok (.ref s.length) (s ++ [.lst ((due w).map U.bl)])) := fun s => marks_ok n hn s w hw
  generalize hS : st ++ [.lst ((List.range 11).map fun k => U.bl (decide ((w : Int) = (k : Nat)))), .lst [.bl true], .lst ((due w).map U.bl)] = S at h2
  have g3 : S[st.length + 2]? = some (.lst ((due w).map U.bl)) := by
    rw [← hS]
    simp
  have g4 : (S ++ [.lst ((due w).map U.bl)])[st.length + 2]? = some (.lst ((due w).map U.bl)) := by
    rw [List.getElem?_append_left (List.getElem?_eq_some_iff.mp g3).1, g3]
  have g5 : (S ++ [.lst ((due w).map U.bl)])[S.length]? = some (.lst ((due w).map U.bl)) := g0 S _ []
  refine ⟨some (.int n), some (.ref (st.length + 2)), S ++ [.lst ((due w).map U.bl)], ?_⟩
  have h3 : ev (Cn 29) (.cmp .ne (.call 47 (.cons (.var 1) (.cons (.var 2) .nil))) (.var 3)) [some (.fl (ns.map U.int)), some (.int w), some (.int n), some (.ref (st.length + 2)), k] S = some (.ok (.bl false) (S ++ [.lst ((due w).map U.bl)])) := by
    rw [ev, ev_call (us := [.int w, .int n]) (st1 := S) rfl, m]
    exact ne_due w hw g5 g4
  show execs (Cn 29) (.cons (.asg (.var 2) (.bin .mod (.call 44 (.cons (.var 0) (.cons (.var 1) .nil))) (.bin .pow (.cst (.int 10)) (.cst (.int 30)))))
    (.cons (.asg (.var 3) (.bin .add elt (.lst (.cons (.cst (.bl true)) .nil))))
    (.cons (.iff (.cmp .ne (.call 47 (.cons (.var 1) (.cons (.var 2) .nil))) (.var 3)) (.cons (.ret (.cst (.bl false))) .nil) .nil) .nil))) _ _ = _
  rw [execs, h1]
  simp only
  rw [execs, h2]
  simp only
  rw [execs, exec, h3]
  rfl
theorem loop_ok (ns : List Int) : ∀ (r w : Nat) (hw : w + r = 11) (f : Nat) (hf : r < f) (v c d k : Option U) (st : Sto), ∃ v' c' d' st', forL (.r 0 1 11) (.var 1) (fun env st => execs (Cn 29) lb env st) f w [some (.fl (ns.map U.int)), v, c, d, k] st = some (.ok .nx [some (.fl (ns.map U.int)), v', c', d', k] st')
  | 0, w, hw, f, hf, v, c, d, k, st => by
    obtain ⟨f, rfl⟩ : ∃ g, f = g + 1 := ⟨f - 1, by omega⟩
    refine ⟨v, c, d, st, ?_⟩
    have : w = 11 := by omega
    subst this
    rfl
  | r + 1, w, hw, f, hf, v, c, d, k, st => by
    obtain ⟨f, rfl⟩ : ∃ g, f = g + 1 := ⟨f - 1, by omega⟩
    obtain ⟨c1, d1, s1, e1⟩ := turn_ok ns w (by omega) c d k st
    obtain ⟨v2, c2, d2, s2, e2⟩ := loop_ok ns r (w + 1) (by omega) f (by omega) (some (.int w)) c1 d1 k s1
    refine ⟨v2, c2, d2, s2, ?_⟩
    rw [forL]
    have hi : item (.r 0 1 11) st w = some (some (.int w)) := by
      simp [item]
      omega
    rw [hi]
    simp only [setT]
    show (match execs (Cn 29) lb [some (.fl (ns.map U.int)), some (.int w), c, d, k] st with
      | some (.ok .nx env'' st') => forL (.r 0 1 11) (.var 1) (fun env st => execs (Cn 29) lb env st) f (w + 1) env'' st'
      | some (.ok .ct env'' st') => forL (.r 0 1 11) (.var 1) (fun env st => execs (Cn 29) lb env st) f (w + 1) env'' st'
      | some (.ok .br env'' st') => some (.ok .nx env'' st')
      | r => r) = _
    rw [e1]
    exact e2
theorem law_holds (ns : List Int) (h : ns.length ≤ 63) : ∃ st, run ds 500 (isxOf tab) 30 48 [.fl (ns.map U.int)] [] = some (.ok (.bl true) st) := by
  obtain ⟨v, c, d, st, e⟩ := loop_ok ns 11 0 (by omega) 500 (by omega) none none none none []
  refine ⟨st, ?_⟩
  show bodyU (Cn 29) d_law [.fl (ns.map U.int)] [] = _
  unfold bodyU
  have hb : d_law.body = .cons (.for_ (.var 1) (.rng1 (.cst (.int 11))) lb) (.cons (.ret (.cst (.bl true))) .nil) := rfl
  rw [hb, execs, exec]
  have hi : evI (Cn 29) (.rng1 (.cst (.int 11))) ([U.fl (ns.map U.int)].map some ++ List.replicate (d_law.N.length - [U.fl (ns.map U.int)].length) none) [] = some (.ok (.r 0 1 11) []) := rfl
  rw [hi]
  show (match (match forL (.r 0 1 11) (.var 1) (fun env st => execs (Cn 29) lb env st) 500 0 [some (.fl (ns.map U.int)), none, none, none, none] [] with
    | some (RS.ok F.nx env' st') => execs (Cn 29) (.cons (.ret (.cst (.bl true))) .nil) env' st'
    | r => r) with
  | some (RS.ok F.nx _ st') => some (R.ok U.non st')
  | some (RS.ok (F.rt u) _ st') => some (R.ok u st')
  | some (RS.exc c _ st') => some (R.exc c st')
  | _ => none) = _
  rw [e]
  rfl
end G56

set_option Elab.async false
set_option linter.all false
set_option maxRecDepth 100000
set_option maxHeartbeats 4000000
namespace G56
open PySem PySem.Spec PyProof.Rows L2 Cw
theorem law_mk {l : PySem.W.OpenLaw} {w : World} {K : PySem.W.Frag} {h : Heap} {mg : Str → Option Value} {fa : Addr} (X : K.In h) (G : h.Ns mainGlobals mg) (hfa : mg "law" = some (.ref fa)) (T : Top (mmOf l.prog w K excs) mg ds consts excs (isxOf tab)) (fl : Cw.FctD K "law" (topS 81)) :
    ∃ fd : FuncData, (∀ (s : Shared) (v : Value), BindsTo s fd ⟨[v], []⟩ [("script", v)]) ∧ ∀ base : Heap, K.In base → base.Ns mainGlobals mg → FnOk l.prog w K mg base (L2.CX l.prog w) 30 fa fd ["script"] (spC ((mmOf l.prog w K excs).at ds 500 (isxOf tab) 30) 48) := by
  obtain ⟨fa', oc, od, an, kV, dc, pm, cd, ct, osl, a, l', co, kp⟩ := fl
  have e := hfa.symm.trans (PySem.W.mg_of X G a)
  cases e
  have F := fun_mk (st := topS 81) l' co kp
  exact ⟨PySem.W.fnOf "law" "law" (defArgs (topS 81)) (defBody (topS 81)) (defScope (topS 81)) .none kV dc pm an cd ct, fun s v => .of_eq rfl, fun base _ _ => run_ok (m := mmOf l.prog w K excs) T 500 30 48 d_law rfl _ _ _ F c_law.sc c_law.np c_law.ck⟩
theorem ends_of {P : Program} {w : World} {H : Hp} {s : Shared} {e : Value} {s' : Shared} (h : L2.CX P w [] H s (fun _ _ _ => False) e s') : False := by
  obtain ⟨_, _, _, _, _, _, _, _, _, _, _, _, z⟩ := h
  exact z
end G56
open PySem PySem.W PyProof.Rows
set_option maxHeartbeats 0 in
theorem PySem.Challenge.cw_claspwork_k56_whole_refusals_apart_holds : PySem.Challenge.rw_claspwork_k56_whole_refusals_apart.Holds := by
  w_on; o_law; k_head; (case hw => w_witness2)
  k_fill
  refine L2.walk_of (l := PySem.Challenge.rw_claspwork_k56_whole_refusals_apart) (n := 63) (k := 30) (x := "script") (CX := fun w => L2.CX PySem.Challenge.pw_claspwork_k56_whole_refusals_apart w) (sp := fun w => Cw.spC ((Cw.mmOf PySem.Challenge.pw_claspwork_k56_whole_refusals_apart w _ G56.excs).at G56.ds 500 (Cw.isxOf G56.tab) 30) 48) rfl (by decide) rfl ⟨rfl, by decide, by decide⟩ (fun w h Y => PySem.W.kIn_of Y) ?F (fun w H a ns hl hO hS => Exists.elim (G56.law_holds ns hl) fun st hst => Cw.sp_law hO hS hst) (fun _ _ _ _ _ h => G56.ends_of h)
  case F =>
    intro w mg fa h KX G hmg
    refine' G56.law_mk KX G hmg (G56.top_mk KX G ?f0 ?f1 ?f2 ?f3 ?f4 ?f5 ?f6 ?f7 ?f8 ?f9 ?f10 ?f11 ?f12 ?f13 ?f14 ?f15 ?f16 ?f17 ?f18 ?f19 ?f20 ?f21 ?f22 ?f23 ?f24 ?f25 ?f26 ?f27 ?f28 ?f29 ?f30 ?f31 ?f32 ?f33 ?f34 ?f35 ?f36 ?f37 ?f38 ?f39 ?f40 ?f41 ?f42 ?f43 ?f44 ?f45 ?f46 ?f47 ?f48 ?b0 ?b1 ?b2 ?b3 ?b4 ?b5 ?b6 ?b7 ?b8 ?b9 ?b10 ?b11 ?b12 ?b13 ?b14 ?b15 ?b16 ?c0 ?c1 ?c2 ?c3 ?c4 ?c5 ?v ?e) ?f48
    case f0 => refine' Cw.fctD_mk ?a ?l ?c ?k; (case a => k_is); (case l => k_is); (case c => k_is); (case k => k_is)
    case f1 => refine' Cw.fctD_mk ?a ?l ?c ?k; (case a => k_is); (case l => k_is); (case c => k_is); (case k => k_is)
    case f2 => refine' Cw.fctD_mk ?a ?l ?c ?k; (case a => k_is); (case l => k_is); (case c => k_is); (case k => k_is)
    case f3 => refine' Cw.fctD_mk ?a ?l ?c ?k; (case a => k_is); (case l => k_is); (case c => k_is); (case k => k_is)
    case f4 => refine' Cw.fctD_mk ?a ?l ?c ?k; (case a => k_is); (case l => k_is); (case c => k_is); (case k => k_is)
    case f5 => refine' Cw.fctD_mk ?a ?l ?c ?k; (case a => k_is); (case l => k_is); (case c => k_is); (case k => k_is)
    case f6 => refine' Cw.fctD_mk ?a ?l ?c ?k; (case a => k_is); (case l => k_is); (case c => k_is); (case k => k_is)
    case f7 => refine' Cw.fctD_mk ?a ?l ?c ?k; (case a => k_is); (case l => k_is); (case c => k_is); (case k => k_is)
    case f8 => refine' Cw.fctD_mk ?a ?l ?c ?k; (case a => k_is); (case l => k_is); (case c => k_is); (case k => k_is)
    case f9 => refine' Cw.fctD_mk ?a ?l ?c ?k; (case a => k_is); (case l => k_is); (case c => k_is); (case k => k_is)
    case f10 => refine' Cw.fctD_mk ?a ?l ?c ?k; (case a => k_is); (case l => k_is); (case c => k_is); (case k => k_is)
    case f11 => refine' Cw.fctD_mk ?a ?l ?c ?k; (case a => k_is); (case l => k_is); (case c => k_is); (case k => k_is)
    case f12 => refine' Cw.fctD_mk ?a ?l ?c ?k; (case a => k_is); (case l => k_is); (case c => k_is); (case k => k_is)
    case f13 => refine' Cw.fctD_mk ?a ?l ?c ?k; (case a => k_is); (case l => k_is); (case c => k_is); (case k => k_is)
    case f14 => refine' Cw.fctD_mk ?a ?l ?c ?k; (case a => k_is); (case l => k_is); (case c => k_is); (case k => k_is)
    case f15 => refine' Cw.fctD_mk ?a ?l ?c ?k; (case a => k_is); (case l => k_is); (case c => k_is); (case k => k_is)
    case f16 => refine' Cw.fctD_mk ?a ?l ?c ?k; (case a => k_is); (case l => k_is); (case c => k_is); (case k => k_is)
    case f17 => refine' Cw.fctD_mk ?a ?l ?c ?k; (case a => k_is); (case l => k_is); (case c => k_is); (case k => k_is)
    case f18 => refine' Cw.fctD_mk ?a ?l ?c ?k; (case a => k_is); (case l => k_is); (case c => k_is); (case k => k_is)
    case f19 => refine' Cw.fctD_mk ?a ?l ?c ?k; (case a => k_is); (case l => k_is); (case c => k_is); (case k => k_is)
    case f20 => refine' Cw.fctD_mk ?a ?l ?c ?k; (case a => k_is); (case l => k_is); (case c => k_is); (case k => k_is)
    case f21 => refine' Cw.fctD_mk ?a ?l ?c ?k; (case a => k_is); (case l => k_is); (case c => k_is); (case k => k_is)
    case f22 => refine' Cw.fctD_mk ?a ?l ?c ?k; (case a => k_is); (case l => k_is); (case c => k_is); (case k => k_is)
    case f23 => refine' Cw.fctD_mk ?a ?l ?c ?k; (case a => k_is); (case l => k_is); (case c => k_is); (case k => k_is)
    case f24 => refine' Cw.fctD_mk ?a ?l ?c ?k; (case a => k_is); (case l => k_is); (case c => k_is); (case k => k_is)
    case f25 => refine' Cw.fctD_mk ?a ?l ?c ?k; (case a => k_is); (case l => k_is); (case c => k_is); (case k => k_is)
    case f26 => refine' Cw.fctD_mk ?a ?l ?c ?k; (case a => k_is); (case l => k_is); (case c => k_is); (case k => k_is)
    case f27 => refine' Cw.fctD_mk ?a ?l ?c ?k; (case a => k_is); (case l => k_is); (case c => k_is); (case k => k_is)
    case f28 => refine' Cw.fctD_mk ?a ?l ?c ?k; (case a => k_is); (case l => k_is); (case c => k_is); (case k => k_is)
    case f29 => refine' Cw.fctD_mk ?a ?l ?c ?k; (case a => k_is); (case l => k_is); (case c => k_is); (case k => k_is)
    case f30 => refine' Cw.fctD_mk ?a ?l ?c ?k; (case a => k_is); (case l => k_is); (case c => k_is); (case k => k_is)
    case f31 => refine' Cw.fctD_mk ?a ?l ?c ?k; (case a => k_is); (case l => k_is); (case c => k_is); (case k => k_is)
    case f32 => refine' Cw.fctD_mk ?a ?l ?c ?k; (case a => k_is); (case l => k_is); (case c => k_is); (case k => k_is)
    case f33 => refine' Cw.fctD_mk ?a ?l ?c ?k; (case a => k_is); (case l => k_is); (case c => k_is); (case k => k_is)
    case f34 => refine' Cw.fctD_mk ?a ?l ?c ?k; (case a => k_is); (case l => k_is); (case c => k_is); (case k => k_is)
    case f35 => refine' Cw.fctD_mk ?a ?l ?c ?k; (case a => k_is); (case l => k_is); (case c => k_is); (case k => k_is)
    case f36 => refine' Cw.fctD_mk ?a ?l ?c ?k; (case a => k_is); (case l => k_is); (case c => k_is); (case k => k_is)
    case f37 => refine' Cw.fctD_mk ?a ?l ?c ?k; (case a => k_is); (case l => k_is); (case c => k_is); (case k => k_is)
    case f38 => refine' Cw.fctD_mk ?a ?l ?c ?k; (case a => k_is); (case l => k_is); (case c => k_is); (case k => k_is)
    case f39 => refine' Cw.fctD_mk ?a ?l ?c ?k; (case a => k_is); (case l => k_is); (case c => k_is); (case k => k_is)
    case f40 => refine' Cw.fctD_mk ?a ?l ?c ?k; (case a => k_is); (case l => k_is); (case c => k_is); (case k => k_is)
    case f41 => refine' Cw.fctD_mk ?a ?l ?c ?k; (case a => k_is); (case l => k_is); (case c => k_is); (case k => k_is)
    case f42 => refine' Cw.fctD_mk ?a ?l ?c ?k; (case a => k_is); (case l => k_is); (case c => k_is); (case k => k_is)
    case f43 => refine' Cw.fctD_mk ?a ?l ?c ?k; (case a => k_is); (case l => k_is); (case c => k_is); (case k => k_is)
    case f44 => refine' Cw.fctD_mk ?a ?l ?c ?k; (case a => k_is); (case l => k_is); (case c => k_is); (case k => k_is)
    case f45 => refine' Cw.fctD_mk ?a ?l ?c ?k; (case a => k_is); (case l => k_is); (case c => k_is); (case k => k_is)
    case f46 => refine' Cw.fctD_mk ?a ?l ?c ?k; (case a => k_is); (case l => k_is); (case c => k_is); (case k => k_is)
    case f47 => refine' Cw.fctD_mk ?a ?l ?c ?k; (case a => k_is); (case l => k_is); (case c => k_is); (case k => k_is)
    case f48 => refine' Cw.fctD_mk ?a ?l ?c ?k; (case a => k_is); (case l => k_is); (case c => k_is); (case k => k_is)
    case b0 => k_is
    case b1 => k_is
    case b2 => k_is
    case b3 => k_is
    case b4 => k_is
    case b5 => k_is
    case b6 => k_is
    case b7 => k_is
    case b8 => k_is
    case b9 => k_is
    case b10 => k_is
    case b11 => k_is
    case b12 => k_is
    case b13 => k_is
    case b14 => k_is
    case b15 => k_is
    case b16 => k_is
    case c0 => refine' Cw.fctI_mk ?a; (case a => k_is)
    case c1 => refine' Cw.fctI_mk ?a; (case a => k_is)
    case c2 => refine' Cw.fctI_mk ?a; (case a => k_is)
    case c3 => refine' Cw.fctI_mk ?a; (case a => k_is)
    case c4 => refine' Cw.fctS_mk ?a; (case a => k_is)
    case c5 => refine' Cw.fctI_mk ?a; (case a => k_is)
    case v => k_is
    case e => kernel_rfl

