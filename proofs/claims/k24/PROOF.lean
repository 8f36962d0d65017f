import PyProof.Rows.All
import HandS.ForMost
import KE.SortData
import KE.KDictKeyed
import KE.DataEq
import KE.DataCmp
import KE.DataFind
import KE.DataIsa
import KE.DataMinMax
import KE.DataAny
import KE.DatumMore
import HandS.TupAny
import KE.KTupSum
import PyProof.SeqIndex
import HandS.Flow
import HandS.Set
import PyProof.Rows.SetFrom
import HandS.Strs
import HandS.Zip
import HandS.Comp
import HandS.Style
import HandS.Words
import PySem.Challenge.RW_strokesjoined_k24_struck_words_and_words
set_option Elab.async false
set_option linter.all false
set_option maxRecDepth 100000
set_option autoImplicit false
section
/-! the plain machine: values, forms, what they give -/
namespace DV
open PySem

abbrev D := PyData

/-- a slot: empty, a value, a container that this slot alone may change -/
inductive Sl where
  | no | sh (d : D) | ow (d : D)
abbrev Ro := List Sl

/-! ### what has no effect -/
inductive Pr where
  | bin (o : Operator) | cmp (o : CmpOp) | neg | isN | notN
  | len | abs | int | str | list | tuple | sorted | sortedSet | lenSet | sum | max1 | min1 | max2 | min2 | all | any
  | ix | sl (lo hi : Bool) | slst (lo hi : Bool)
  | join | index | count | get1 | get2 | dict
  | isi (t : String) | truth
/-- what changes its container -/
inductive Mu where
  | append | extend | pop | popAt | remove | update | setdefault

mutual
inductive Tg where
  | nm (i : Nat) | tp (ts : Tgs)
inductive Tgs where
  | nil | cons (t : Tg) (ts : Tgs)
end

mutual
inductive IE where
  | con (c : D) | glb (c : D) | var (i : Nat) | esc (i : Nat) | own (i : Nat) | io (i : Nat)
  | tup (es : IEs) | lst (es : IEs) | dic (es : IEs)
  | prim (p : Pr) (es : IEs)
  | not (e : IE) | and (a b : IE) | or (a b : IE) | ife (c a b : IE)
  | chain (o1 o2 : CmpOp) (a b c : IE)
  | call (f : Nat) (es : IEs)
  | mut (m : Mu) (i : Nat) (es : IEs)
  | comp (vs : List Nat) (t : Tg) (it : It) (cs : IEs) (elt : IE)
  | comp2 (vs : List Nat) (t : Tg) (it : It) (cs : IEs) (vs1 : List Nat) (t1 : Tg) (it1 : It) (cs1 : IEs) (elt : IE)
inductive IEs where
  | nil | cons (e : IE) (es : IEs)
inductive It where
  | val (e : IE) | rng (es : IEs) | zip (a b : IE) | enum (e : IE) | items (e : IE) | vals (e : IE)
end

mutual
inductive IS where
  | asg (t : Tg) (own : Bool) (e : IE)
  | par (ts : List (Nat × Bool)) (es : IEs)
  | aug (i : Nat) (o : Operator) (e : IE)
  | setIx (i : Nat) (k e : IE)
  | augIx (i : Nat) (k : IE) (o : Operator) (e : IE)
  | exp (e : IE) | ret (e : IE) | retN
  | iff (c : IE) (a b : ISs)
  | for_ (t : Tg) (it : It) (b : ISs)
  | while_ (c : IE) (b : ISs)
  | brk | cont | pass | fail
inductive ISs where
  | nil | cons (s : IS) (ss : ISs)
end

/-! ### plain operations -/
def addF : D → D → Option D
  | .int i, .int j => some (.int (i + j))
  | .str s, .str t => if s.length + t.length ≤ sizeLine then some (.str (s ++ t)) else none
  | .list xs, .list ys => if xs.length + ys.length ≤ sizeLine then some (.list (xs ++ ys)) else none
  | .tuple xs, .tuple ys => if xs.length + ys.length ≤ sizeLine then some (.tuple (xs ++ ys)) else none
  | _, _ => none
def subF : D → D → Option D
  | .int i, .int j => some (.int (i - j))
  | _, _ => none
/-- a number of at most 64 bits -/
def small (i : Int) : Bool := decide (i.natAbs < 18446744073709551616)
def mulF : D → D → Option D
  | .int i, .int j => if small i || small j then some (.int (i * j)) else none
  | .list xs, .int j => if decide (j.natAbs < 9223372036854775808) && decide (xs.length * j.toNat ≤ sizeLine) then some (.list ((List.replicate j.toNat xs).flatten)) else none
  | _, _ => none
def divOk (j : Int) : Bool := decide (j ≠ 0) && decide (j.natAbs < 1073741824)
def fdivF : D → D → Option D
  | .int i, .int j => if divOk j then some (.int (i.fdiv j)) else none
  | _, _ => none
def modF : D → D → Option D
  | .int i, .int j => if j = 0 then none else some (.int (i.fmod j))
  | _, _ => none
def powF : D → D → Option D
  | .int i, .int j => if decide (0 ≤ j) && decide (j ≤ 1000000) && decide (i.natAbs < 2 ^ 64) then some (.int (i ^ j.toNat)) else none
  | _, _ => none
def binF : Operator → D → D → Option D
  | .Add, a, b => addF a b
  | .Sub, a, b => subF a b
  | .Mult, a, b => mulF a b
  | .FloorDiv, a, b => fdivF a b
  | .Mod, a, b => modF a b
  | .Pow, a, b => powF a b
  | _, _, _ => none

/-- op= without a change of the left operand -/
def augF : Operator → D → D → Option D
  | .Add, .int i, .int j => some (.int (i + j))
  | .Sub, .int i, .int j => some (.int (i - j))
  | .Add, .str s, .str t => if s.length + t.length ≤ sizeLine then some (.str (s ++ t)) else none
  | _, _, _ => none

/-! ### keys -/
mutual
/-- a key, up to == -/
def keyN : D → Option NestedKey
  | .none => some .none
  | .bool b => some (.num (if b = true then 1 else 0))
  | .int i => some (.num i)
  | .str s => some (.text s)
  | .tuple xs => (keyNs xs).map .tup
  | .list _ => none
  | .dict _ => none
def keyNs : List D → Option (List NestedKey)
  | [] => some []
  | x :: xs => (keyN x).bind fun k => (keyNs xs).map (k :: ·)
end
def isTupK : D → Bool
  | .tuple _ => true
  | _ => false
def atomK : D → Option L2.Key
  | .int i => some (.inl i)
  | .str x => some (.inr x)
  | _ => none
/-- a tuple that may be a key -/
def tupKey (k : D) : Bool := isTupK k && (match keyN k with | some n => decide (n.depth ≤ 8) | none => false)
/-- it may be a key beside these -/
def keyOk (kvs : List (D × D)) (k : D) : Bool := ((atomK k).isSome && kvs.all fun p => (atomK p.1).isSome) || (tupKey k && kvs.all fun p => tupKey p.1)
def sameK (a b : D) : Bool := decide (keyN a = keyN b)
def dget (kvs : List (D × D)) (k : D) : Option D := (kvs.find? fun p => sameK p.1 k).map (·.2)
def dput (kvs : List (D × D)) (k v : D) : List (D × D) := if kvs.any (fun p => sameK p.1 k) then kvs.map fun p => if sameK p.1 k then (p.1, v) else p else kvs ++ [(k, v)]
def dputF (kvs : List (D × D)) (k v : D) : Option (List (D × D)) := if keyOk kvs k && decide (kvs.length < sizeLine) then some (dput kvs k v) else none
def dputs (kvs : List (D × D)) : List (D × D) → Option (List (D × D))
  | [] => some kvs
  | p :: ps => (dputF kvs p.1 p.2).bind fun kvs' => dputs kvs' ps
def pairUp : List D → Option (List (D × D))
  | [] => some []
  | k :: v :: r => (pairUp r).map ((k, v) :: ·)
  | _ => none
def pairsOf : List D → Option (List (D × D))
  | [] => some []
  | .tuple [k, v] :: r => (pairsOf r).map ((k, v) :: ·)
  | _ => none

/-- no dict within, not too deep -/
def okD (d : D) : Bool := d.plain && decide (d.depth ≤ 40)
def eqF (a b : D) : Option Bool := if okD a && okD b then some (PyData.eqv a b) else none
/-- ordered by < -/
def ordB (a b : D) : Bool := (match a with | .none => false | _ => true) && W.alike a b && decide (a.depth ≤ 40)
def ltF (a b : D) : Option Bool := if ordB a b then some (W.dataLt a b) else none
def leF (a b : D) : Option Bool := if ordB a b then some (!W.dataLt b a) else none
def inF (x : D) : D → Option Bool
  | .list ds => if okD x && okD (.list ds) then some (ds.any fun z => PyData.eqv z x) else none
  | .tuple ds => if okD x && okD (.tuple ds) then some (ds.any fun z => PyData.eqv z x) else none
  | .str s => match x with
    | .str t => some (!(Builtin.Str.occurrences s t 0 s.length 1).isEmpty)
    | _ => none
  | .dict kvs => if keyOk kvs x then some (dget kvs x).isSome else none
  | _ => none
def cmpB : CmpOp → D → D → Option Bool
  | .Eq, a, b => eqF a b
  | .NotEq, a, b => (eqF a b).map (!·)
  | .Lt, a, b => ltF a b
  | .Gt, a, b => if ordB a b then some (W.dataLt b a) else none
  | .LtE, a, b => leF a b
  | .GtE, a, b => if ordB a b then some (!W.dataLt a b) else none
  | .In, a, b => inF a b
  | .NotIn, a, b => (inF a b).map (!·)
  | _, _, _ => none
def cmpF (o : CmpOp) (a b : D) : Option D := (cmpB o a b).map .bool

def truthF : D → Option Bool
  | .none => some false
  | .bool b => some b
  | .int i => some (i != 0)
  | .str s => some (s.length != 0)
  | .list xs => some (!xs.isEmpty)
  | .tuple xs => some (!xs.isEmpty)
  | .dict _ => none
def isCont : D → Bool
  | .list _ => true
  | .dict _ => true
  | _ => false
/-- of what make it is -/
def kindD : D → Nat
  | .none => 0
  | .bool _ => 1
  | .int _ => 2
  | .str _ => 3
  | .list _ => 4
  | .tuple _ => 5
  | .dict _ => 6
mutual
def noMut : D → Bool
  | .list _ => false
  | .dict _ => false
  | .tuple xs => noMutAll xs
  | _ => true
def noMutAll : List D → Bool
  | [] => true
  | x :: xs => noMut x && noMutAll xs
end

def signAt (s : Str) (i : Int) : Option Str := (L2.atI s.cps.toList i).map fun c => ⟨#[c]⟩
def ixF : D → D → Option D
  | .list xs, .int i => L2.atI xs i
  | .tuple xs, .int i => L2.atI xs i
  | .str s, .int i => (signAt s i).map .str
  | .dict kvs, k => if keyOk kvs k then dget kvs k else none
  | _, _ => none
/-- the part from lo to hi -/
def cut {α : Type} (xs : List α) (lo hi : Option Int) : List α := (xs.drop (HT.sIx xs.length 0 lo)).take (HT.sIx xs.length xs.length hi - HT.sIx xs.length 0 lo)
/-- .. by steps -/
def cutBy {α : Type} (xs : List α) (lo hi : Option Int) (st : Int) : List α := if st = 1 then cut xs lo hi else (Builtin.Str.strSliceIndices lo hi st xs.length).filterMap (xs[·]?)
def pickBy {α : Type} (xs : List α) (lo hi : Option Int) (st : Int) : List α := (sliceRange (sliceBounds lo hi (some st) xs.length).1 (sliceBounds lo hi (some st) xs.length).2.1 (sliceBounds lo hi (some st) xs.length).2.2).filterMap (xs[·]?)
def partOf : D → Option (Option Int)
  | .int i => some (some i)
  | .none => some none
  | _ => none
def slF (lo hi : Option Int) : D → Option D
  | .list xs => some (.list (cut xs lo hi))
  | .tuple xs => some (.tuple (cut xs lo hi))
  | .str s => some (.str ⟨(cut s.cps.toList lo hi).toArray⟩)
  | _ => none
def slstF (lo hi : Option Int) (st : Int) : D → Option D
  | .list xs => if st = 0 then none else some (.list (pickBy xs lo hi st))
  | .str s => if st = 0 then none else some (.str ⟨(cutBy s.cps.toList lo hi st).toArray⟩)
  | .tuple xs => if lo = none ∧ hi = none ∧ st = -1 then some (.tuple xs.reverse) else none
  | _ => none
def lenF : D → Option D
  | .list xs => some (.int xs.length)
  | .tuple xs => some (.int xs.length)
  | .str s => some (.int s.length)
  | .dict xs => some (.int xs.length)
  | _ => none
def absF : D → Option D
  | .int i => some (.int (if i < 0 then -i else i))
  | _ => none
def intF : D → Option D
  | .int i => some (.int i)
  | .bool b => some (.int (if b then 1 else 0))
  | _ => none
def negF : D → Option D
  | .int i => some (.int (-i))
  | _ => none
def strsOf : List D → Option (List Str)
  | [] => some []
  | .str s :: xs => (strsOf xs).map (s :: ·)
  | _ => none
def intsOf : List D → Option (List Int)
  | [] => some []
  | .int s :: xs => (intsOf xs).map (s :: ·)
  | _ => none
def boolsOf : List D → Option (List Bool)
  | [] => some []
  | .bool s :: xs => (boolsOf xs).map (s :: ·)
  | _ => none
/-- what stands in a list or a tuple -/
def seqOf : D → Option (List D)
  | .list xs => some xs
  | .tuple xs => some xs
  | _ => none
def lstOf : D → Option (List D)
  | .list xs => some xs
  | _ => none
def isiF (t : String) (d : D) : Option D := match t with
  | "int" => some (.bool d.isInt)
  | "bool" => some (.bool d.isBool)
  | "str" => some (.bool d.isStr)
  | "tuple" => some (.bool d.isTuple)
  | "list" => some (.bool d.isList)
  | "dict" => some (.bool d.isDict)
  | _ => none
def joinLen (t : Str) (ss : List Str) : Nat := (ss.map Str.length).sum + ss.length * t.length
def joinF (t : Str) (ss : List Str) : Option D := if joinLen t ss ≤ sizeLine then some (.str (Str.join t ss)) else none
/-- all alike, in order -/
def alikeB (xs : List D) : Bool := (xs.all fun x => xs.all fun y => W.alike x y) && decide (PyData.depthAll xs ≤ 40)
def sortableB (xs : List D) : Bool := (xs.all fun d => match d with | .tuple (_ :: _) => true | _ => false) || (xs.all fun d => match d with | .none => false | .tuple _ => false | _ => true)
def sortD (xs : List D) : List D := xs.mergeSort fun a b => !W.dataLt b a
def sortedF (xs : List D) : Option D := if alikeB xs && sortableB xs then some (.list (sortD xs)) else none
def noneFree (xs : List D) : Bool := xs.all fun d => match d with | .none => false | _ => true
def bestF (lt : D → D → Bool) : List D → Option D
  | [] => none
  | x :: xs => if alikeB (x :: xs) && noneFree (x :: xs) then some (xs.foldl (fun a y => if lt y a then y else a) x) else none
def indexF (xs : List D) (d : D) : Option D := if PyData.plainAll xs && decide (PyData.depthAll xs ≤ 40) && okD d then (xs.findIdx? fun y => PyData.eqv y d).map fun j => .int (j : Nat) else none
def countF (xs : List D) (d : D) : Option D := if PyData.plainAll xs && decide (PyData.depthAll xs ≤ 40) && okD d then some (.int (xs.countP fun y => PyData.eqv y d : Nat)) else none

/-- a list's members, each once -/
def ddL {α : Type} [DecidableEq α] : List α → List α
  | [] => []
  | x :: xs => if x ∈ xs then ddL xs else x :: ddL xs
def ssetF (xs : List D) : Option D := if 4000 < xs.length then none else match intsOf xs with
  | some ns => some (.list (sortD ((ddL ns).map .int)))
  | none => match strsOf xs with
    | some ss => some (.list (sortD ((ddL ss).map .str)))
    | none => none

def primF : Pr → List D → Option D
  | .bin o, [a, b] => binF o a b
  | .cmp o, [a, b] => cmpF o a b
  | .neg, [a] => negF a
  | .isN, [a] => some (.bool (match a with | .none => true | _ => false))
  | .notN, [a] => some (.bool (match a with | .none => false | _ => true))
  | .len, [a] => lenF a
  | .abs, [a] => absF a
  | .int, [a] => intF a
  | .list, [a] => (seqOf a).map .list
  | .tuple, [a] => (seqOf a).map .tuple
  | .sorted, [.list xs] => sortedF xs
  | .sortedSet, [.list xs] => ssetF xs
  | .sum, [a] => (seqOf a).bind fun xs => (intsOf xs).map fun ns => .int ns.sum
  | .max1, [a] => (seqOf a).bind (bestF fun y x => W.dataLt x y)
  | .min1, [a] => (seqOf a).bind (bestF fun y x => W.dataLt y x)
  | .max2, [.int a, .int b] => some (.int (if b > a then b else a))
  | .min2, [.int a, .int b] => some (.int (if b < a then b else a))
  | .all, [a] => (seqOf a).bind fun xs => (boolsOf xs).map fun bs => .bool (bs.all id)
  | .any, [a] => (seqOf a).bind fun xs => (boolsOf xs).map fun bs => .bool (bs.any id)
  | .ix, [a, i] => ixF a i
  | .sl false false, [a] => slF none none a
  | .sl true false, [a, l] => (partOf l).bind fun l => slF l none a
  | .sl false true, [a, u] => (partOf u).bind fun u => slF none u a
  | .sl true true, [a, l, u] => (partOf l).bind fun l => (partOf u).bind fun u => slF l u a
  | .slst false false, [a, .int k] => slstF none none k a
  | .slst true false, [a, l, .int k] => (partOf l).bind fun l => slstF l none k a
  | .slst false true, [a, u, .int k] => (partOf u).bind fun u => slstF none u k a
  | .slst true true, [a, l, u, .int k] => (partOf l).bind fun l => (partOf u).bind fun u => slstF l u k a
  | .join, [.str t, a] => (seqOf a).bind fun xs => (strsOf xs).bind (joinF t)
  | .index, [.list xs, d] => indexF xs d
  | .count, [.list xs, d] => countF xs d
  | .isi t, [a] => isiF t a
  | .truth, [a] => (truthF a).map .bool
  | .get1, [.dict kvs, k] => if keyOk kvs k then some ((dget kvs k).getD .none) else none
  | .get2, [.dict kvs, k, d] => if keyOk kvs k && !isCont d then some ((dget kvs k).getD d) else none
  | .dict, [.list xs] => (pairsOf xs).bind fun ps => (dputs [] ps).map .dict
  | _, _ => none

/-- these make a new container -/
def frP : Pr → Bool
  | .bin _ => true
  | .list => true
  | .sorted => true
  | .sortedSet => true
  | .sl _ _ => true
  | .slst _ _ => true
  | .dict => true
  | _ => false
def freshE : IE → Bool
  | .lst _ => true
  | .dic _ => true
  | .comp .. => true
  | .comp2 .. => true
  | .prim p _ => frP p
  | .ife _ a b => freshE a && freshE b
  | _ => false

/-! ### what changes a container: its new content, what is given back -/
def mutF : Mu → D → List D → Option (D × D)
  | .append, .list xs, [d] => if xs.length < sizeLine then some (.list (xs ++ [d]), .none) else none
  | .extend, .list xs, [a] => match a with
    | .list ys => if xs.length + ys.length ≤ sizeLine then some (.list (xs ++ ys), .none) else none
    | _ => none
  | .pop, .list xs, [] => (L2.atI xs (-1)).map fun d => (.list xs.dropLast, d)
  | _, _, _ => none
def setIxF : D → D → D → Option D
  | .list xs, .int i, d => (L2.ixN xs.length i).map fun k => .list (xs.set k d)
  | .dict kvs, k, d => (dputF kvs k d).map .dict
  | _, _, _ => none

/-! ### the slots -/
def shS : Sl → Option D
  | .sh d => some d
  | _ => none
def owS : Sl → Option D
  | .ow d => some d
  | _ => none
def anS : Sl → Option D
  | .sh d => some d
  | .ow d => some d
  | .no => none
def getAny (ρ : Ro) (i : Nat) : Option D := (ρ[i]?).bind anS
def getSh (ρ : Ro) (i : Nat) : Option D := (ρ[i]?).bind shS
def getOw (ρ : Ro) (i : Nat) : Option D := (ρ[i]?).bind owS
def mkSl (own : Bool) (d : D) : Sl := if own && isCont d then .ow d else .sh d
def wipeR : Ro → List Nat → Ro
  | ρ, [] => ρ
  | ρ, v :: vs => (wipeR ρ vs).set v .no
/-- the slots vs as they were in ρ1 -/
def back (ρ1 : Ro) : Ro → List Nat → Ro
  | ρ, [] => ρ
  | ρ, v :: vs => (back ρ1 ρ vs).set v (ρ1.getD v .no)
def noOw (ρ : Ro) (vs : List Nat) : Bool := vs.all fun v => match ρ[v]? with | some (.ow _) => false | _ => true

mutual
def asgT : Tg → D → Ro → Option Ro
  | .nm i, d, ρ => some (ρ.set i (.sh d))
  | .tp ts, d, ρ => match d with
    | .tuple ds => asgTs ts ds ρ
    | _ => none
def asgTs : Tgs → List D → Ro → Option Ro
  | .nil, [], ρ => some ρ
  | .cons t ts, d :: ds, ρ => (asgT t d ρ).bind fun ρ1 => asgTs ts ds ρ1
  | _, _, _ => none
end

/-- a call of the f-th def: what it gives back, what its in-out arguments hold behind it -/
abbrev Call := Nat → List D → Option (D × List D)

def ioS : IEs → List Nat
  | .nil => []
  | .cons (.io i) es => i :: ioS es
  | .cons _ es => ioS es
def hasOwn : IEs → Bool
  | .nil => false
  | .cons (.own _) _ => true
  | .cons _ es => hasOwn es
def putIo : List Nat → List D → Ro → Option Ro
  | [], [], ρ => some ρ
  | i :: is, d :: ds, ρ => putIo is ds (ρ.set i (.ow d))
  | _, _, _ => none

/-- the turns of a comprehension -/
def compLoop (f : D → Ro → Option (List D × Ro)) : List D → Ro → Option (List D × Ro)
  | [], ρ => some ([], ρ)
  | x :: xs, ρ => (f x ρ).bind fun p => (compLoop f xs p.2).bind fun q => some (p.1 ++ q.1, q.2)

def iterD : D → Option (List D)
  | .list xs => some xs
  | .tuple xs => some xs
  | .str s => if s.length ≤ sizeLine then some (s.cps.toList.map fun c => .str ⟨#[c]⟩) else none
  | _ => none
def rangeI (lo : Int) (n : Nat) (st : Int) : List D := (List.range n).map fun (k : Nat) => .int (lo + k * st)
def rngIn (i : Int) : Bool := decide (i.natAbs < 4611686018427387904)
def rngF : List D → Option (List D)
  | [.int hi] => if rngIn hi then some (rangeI 0 hi.toNat 1) else none
  | [.int lo, .int hi] => if rngIn lo && rngIn hi then some (rangeI lo (hi - lo).toNat 1) else none
  | [.int lo, .int hi, .int st] => if rngIn lo && rngIn hi && decide (st ≠ 0) && decide (st.natAbs < 1073741824) then some (rangeI lo (Builtin.Range.rangeSize lo hi st).toNat st) else none
  | _ => none
def zipD (xs ys : List D) : List D := (xs.zip ys).map fun p => .tuple [p.1, p.2]
def enumD (xs : List D) : List D := (List.range xs.length).zipWith (fun (k : Nat) x => .tuple [.int k, x]) xs
def itemsD : D → Option (List D)
  | .dict kvs => some (kvs.map fun p => .tuple [p.1, p.2])
  | _ => none
def valsD : D → Option (List D)
  | .dict kvs => some (kvs.map (·.2))
  | _ => none
/-- a walk that is written into a list: it fits -/
def fitsL (xs : List D) : Option (List D) := if xs.length ≤ sizeLine then some xs else none

mutual
def evE (C : Call) : IE → Ro → Option (D × Ro)
  | .con c, ρ => some (c, ρ)
  | .glb c, ρ => some (c, ρ)
  | .var i, ρ => (getSh ρ i).map fun d => (d, ρ)
  | .esc i, ρ => (getAny ρ i).map fun d => (d, ρ.set i (.sh d))
  | .own _, _ => none
  | .io _, _ => none
  | .tup es, ρ => (evOps C es ρ).map fun p => (.tuple p.1, p.2)
  | .lst es, ρ => (evOps C es ρ).map fun p => (.list p.1, p.2)
  | .dic es, ρ => (evOps C es ρ).bind fun p => (pairUp p.1).bind fun ps => if ps.length ≤ 15 && ps.all (fun q => (atomK q.1).isSome) then (dputs [] ps).map fun kvs => (.dict kvs, p.2) else none
  | .prim p es, ρ => (evOps C es ρ).bind fun q => (primF p q.1).map fun d => (d, q.2)
  | .not e, ρ => (evE C e ρ).bind fun p => (truthF p.1).map fun k => (.bool (!k), p.2)
  | .and a b, ρ => (evE C a ρ).bind fun p => (truthF p.1).bind fun k => if k then evE C b p.2 else some p
  | .or a b, ρ => (evE C a ρ).bind fun p => (truthF p.1).bind fun k => if k then some p else evE C b p.2
  | .ife c a b, ρ => (evE C c ρ).bind fun p => (truthF p.1).bind fun k => if k then evE C a p.2 else evE C b p.2
  | .chain o1 o2 a b c, ρ => (evE C a ρ).bind fun p => (evE C b p.2).bind fun q => (cmpB o1 p.1 q.1).bind fun k =>
      if k then (evE C c q.2).bind fun r => (cmpB o2 q.1 r.1).map fun k' => (.bool k', r.2) else some (.bool false, q.2)
  | .call f es, ρ => (evOps C es ρ).bind fun p => (C f p.1).bind fun r => if hasOwn es && (!noMut r.1 || !(ioS es).isEmpty) then none else (putIo (ioS es) r.2 p.2).map fun ρ' => (r.1, ρ')
  | .mut m i es, ρ => (getOw ρ i).bind fun c0 => (evOps C es ρ).bind fun p => (getOw p.2 i).bind fun c => if kindD c0 = kindD c then (mutF m c p.1).map fun r => (r.2, p.2.set i (.ow r.1)) else none
  | .comp vs t it cs elt, ρ => (evI C it ρ).bind fun p => if noOw p.2 vs then (fitsL p.1).bind fun xs =>
      (compLoop (fun x ρ => (asgT t x (wipeR ρ vs)).bind fun ρ1 => (evCs C cs ρ1).bind fun q => if q.1 then (evE C elt q.2).map fun r => ([r.1], r.2) else some ([], q.2)) xs p.2).map fun q => (.list q.1, back p.2 q.2 vs) else none
  | .comp2 vs t it cs vs1 t1 it1 cs1 elt, ρ => (evI C it ρ).bind fun p => if noOw p.2 vs then
      (compLoop (fun x ρ => (asgT t x (wipeR ρ vs)).bind fun ρ1 => (evCs C cs ρ1).bind fun q => if q.1 then
          (evI C it1 q.2).bind fun p1 => compLoop (fun x ρ => (asgT t1 x (wipeR ρ vs1)).bind fun ρ1 => (evCs C cs1 ρ1).bind fun q => if q.1 then (evE C elt q.2).map fun r => ([r.1], r.2) else some ([], q.2)) p1.1 p1.2
        else some ([], q.2)) p.1 p.2).bind fun q => (fitsL q.1).map fun ys => (.list ys, back p.2 q.2 vs) else none
/-- operands: one that is its slot's own is looked at when all are there -/
def evOps (C : Call) : IEs → Ro → Option (List D × Ro)
  | .nil, ρ => some ([], ρ)
  | .cons (.own i) es, ρ => (getAny ρ i).bind fun d0 => (evOps C es ρ).bind fun p => (getAny p.2 i).bind fun d => if kindD d0 = kindD d then some (d :: p.1, p.2) else none
  | .cons (.io i) es, ρ => (getOw ρ i).bind fun _ => (evOps C es ρ).bind fun p => (getOw p.2 i).map fun d => (d :: p.1, p.2)
  | .cons e es, ρ => (evE C e ρ).bind fun p => (evOps C es p.2).map fun q => (p.1 :: q.1, q.2)
def evI (C : Call) : It → Ro → Option (List D × Ro)
  | .val e, ρ => (evE C e ρ).bind fun p => (iterD p.1).map fun xs => (xs, p.2)
  | .rng es, ρ => (evOps C es ρ).bind fun p => (rngF p.1).map fun xs => (xs, p.2)
  | .zip a b, ρ => (evE C a ρ).bind fun p => (evE C b p.2).bind fun q => (seqOf p.1).bind fun xs => (seqOf q.1).bind fun ys => if kindD p.1 = kindD q.1 then some (zipD xs ys, q.2) else none
  | .enum e, ρ => (evE C e ρ).bind fun p => (lstOf p.1).map fun xs => (enumD xs, p.2)
  | .items e, ρ => (evE C e ρ).bind fun p => (itemsD p.1).map fun xs => (xs, p.2)
  | .vals e, ρ => (evE C e ρ).bind fun p => (valsD p.1).map fun xs => (xs, p.2)
def evCs (C : Call) : IEs → Ro → Option (Bool × Ro)
  | .nil, ρ => some (true, ρ)
  | .cons c .nil, ρ => (evE C c ρ).bind fun p => (truthF p.1).map fun k => (k, p.2)
  | _, _ => none
end

inductive Fl where
  | nx (ρ : Ro) | rt (d : D) (ρ : Ro) | bk (ρ : Ro) | ct (ρ : Ro)

def forLoop (f : D → Ro → Option Fl) : List D → Ro → Option Fl
  | [], ρ => some (.nx ρ)
  | x :: xs, ρ => (f x ρ).bind fun r => match r with
    | .nx ρ' => forLoop f xs ρ'
    | .ct ρ' => forLoop f xs ρ'
    | .bk ρ' => some (.nx ρ')
    | .rt d ρ' => some (.rt d ρ')
def whileLoop (c : Ro → Option (Bool × Ro)) (f : Ro → Option Fl) : Nat → Ro → Option Fl
  | 0, _ => none
  | n + 1, ρ => (c ρ).bind fun p => if p.1 then (f p.2).bind fun r => match r with
      | .nx ρ' => whileLoop c f n ρ'
      | .ct ρ' => whileLoop c f n ρ'
      | .bk ρ' => some (.nx ρ')
      | .rt d ρ' => some (.rt d ρ')
    else some (.nx p.2)
def turnsMost : Nat := 1048576

def parPut : List (Nat × Bool) → List D → Ro → Option Ro
  | [], [], ρ => some ρ
  | t :: ts, d :: ds, ρ => parPut ts ds (ρ.set t.1 (mkSl t.2 d))
  | _, _, _ => none

mutual
def exS (C : Call) : IS → Ro → Option Fl
  | .asg (.nm i) own e, ρ => (evE C e ρ).map fun p => .nx (p.2.set i (mkSl own p.1))
  | .asg t _ e, ρ => (evE C e ρ).bind fun p => (asgT t p.1 p.2).map .nx
  | .par ts es, ρ => (evOps C es ρ).bind fun p => (parPut ts p.1 p.2).map .nx
  | .aug i o e, ρ => (getAny ρ i).bind fun _ => (evE C e ρ).bind fun p => (getSh p.2 i).bind fun x => (augF o x p.1).map fun d => .nx (p.2.set i (.sh d))
  | .setIx i k e, ρ => (evE C e ρ).bind fun p => (getOw p.2 i).bind fun _ => (evE C k p.2).bind fun q => (getOw q.2 i).bind fun c => (setIxF c q.1 p.1).map fun c' => .nx (q.2.set i (.ow c'))
  | .augIx i k o e, ρ => (getOw ρ i).bind fun _ => (evE C k ρ).bind fun p => (getOw p.2 i).bind fun c => (ixF c p.1).bind fun old => (evE C e p.2).bind fun q => (augF o old q.1).bind fun new =>
      (getOw q.2 i).bind fun c2 => (setIxF c2 p.1 new).map fun c' => .nx (q.2.set i (.ow c'))
  | .exp e, ρ => (evE C e ρ).map fun p => .nx p.2
  | .ret e, ρ => (evE C e ρ).map fun p => .rt p.1 p.2
  | .retN, ρ => some (.rt .none ρ)
  | .iff c a b, ρ => (evE C c ρ).bind fun p => (truthF p.1).bind fun k => if k then exSs C a p.2 else exSs C b p.2
  | .for_ t it b, ρ => (evI C it ρ).bind fun p => forLoop (fun x ρ => (asgT t x ρ).bind fun ρ1 => exSs C b ρ1) p.1 p.2
  | .while_ c b, ρ => whileLoop (fun ρ => (evE C c ρ).bind fun p => (truthF p.1).map fun k => (k, p.2)) (fun ρ => exSs C b ρ) turnsMost ρ
  | .brk, ρ => some (.bk ρ)
  | .cont, ρ => some (.ct ρ)
  | .pass, ρ => some (.nx ρ)
  | .fail, _ => none
def exSs (C : Call) : ISs → Ro → Option Fl
  | .nil, ρ => some (.nx ρ)
  | .cons s ss, ρ => (exS C s ρ).bind fun r => match r with
    | .nx ρ' => exSs C ss ρ'
    | r => some r
end

/-- a def: how many parameters, which of them are in-out, how many slots, its body -/
structure Fi where
  io : List Bool
  slots : Nat
  body : ISs
def inSl : List Bool → List D → Option Ro
  | [], [] => some []
  | b :: bs, d :: ds => (inSl bs ds).map ((if b then .ow d else .sh d) :: ·)
  | _, _ => none
def outSl : List Bool → Ro → Option (List D)
  | [], _ => some []
  | true :: bs, .ow d :: ρ => (outSl bs ρ).map (d :: ·)
  | false :: bs, _ :: ρ => outSl bs ρ
  | _, _ => none
def evF (T : List Fi) : Nat → Call
  | 0 => fun _ _ => none
  | n + 1 => fun f ds => (T[f]?).bind fun fi => (inSl fi.io ds).bind fun ρ => (exSs (evF T n) fi.body (ρ ++ List.replicate (fi.slots - ds.length) .no)).bind fun r => match r with
    | .nx ρ' => (outSl fi.io ρ').map fun os => (.none, os)
    | .rt d ρ' => (outSl fi.io ρ').map fun os => (d, os)
    | _ => none
end DV
end

section
/-! what a value of the heap denotes -/
namespace DV
open PySem PySem.Spec PyProof.Rows L2

/-- a dict's own object, as it is -/
def dob (a : Addr) (o : Obj) : HO := .ext fun h => h.get? a = some o

/-- the keys of a dict: apart, of one make -/
structure KeysOk (kvs : List (D × D)) : Prop where
  apart : (kvs.map fun p => keyN p.1).Nodup
  make : (∀ p ∈ kvs, (atomK p.1).isSome = true) ∨ (∀ p ∈ kvs, tupKey p.1 = true)

structure DicAt (H : Hp) (a : Addr) (es : Array DictEntry) (kvs : List (D × D)) : Prop where
  obj : ∃ o ep, H a = some (dob a o) ∧ o.ExactDict ∧ o.data = .dict es ep
  sys : (a == sysModules) = false
  len : kvs.length ≤ sizeLine
  keys : KeysOk kvs

mutual
/-- v denotes d, by objects that are not in P -/
inductive Den (K : PySem.W.Frag) (w : World) (P : Addr → Prop) (H : Hp) : V → D → Prop
  | non : Den K w P H .non .none
  | bl (b : Bool) : Den K w P H (.bl b) (.bool b)
  | int (i : Int) : Den K w P H (.int i) (.int i)
  | str (x : Str) : x.length ≤ sizeLine → Den K w P H (.str x) (.str x)
  | lst {a : Addr} {xs : List V} {ds : List D} : ¬ P a → Rd H a (.lst xs) → DenL K w P H xs ds → Den K w P H (.ref a) (.list ds)
  | tup {a : Addr} {xs : List V} {ds : List D} : ¬ P a → Rd H a (.tup xs) → DenL K w P H xs ds → Den K w P H (.ref a) (.tuple ds)
  | tupK {a : Addr} {xs : List V} {ds : List D} : (∀ H : Hp, SqT K H a xs) → DenL K w P H xs ds → Den K w P H (.ref a) (.tuple ds)
  | dic {a : Addr} {es : Array DictEntry} {kvs : List (D × D)} : ¬ P a → DicAt H a es kvs → DenE K w P H es.toList kvs → Den K w P H (.ref a) (.dict kvs)
inductive DenL (K : PySem.W.Frag) (w : World) (P : Addr → Prop) (H : Hp) : List V → List D → Prop
  | nil : DenL K w P H [] []
  | cons {v : V} {vs : List V} {d : D} {ds : List D} : Den K w P H v d → DenL K w P H vs ds → DenL K w P H (v :: vs) (d :: ds)
inductive DenE (K : PySem.W.Frag) (w : World) (P : Addr → Prop) (H : Hp) : List DictEntry → List (D × D) → Prop
  | nil : DenE K w P H [] []
  | cons {e : DictEntry} {es : List DictEntry} {k d : D} {kvs : List (D × D)} {kv dv : V} {n : NestedKey} : RelV kv e.key → Den K w P H kv k → keyN k = some n → e.hash = n.hash w → RelV dv e.val → Den K w P H dv d →
      DenE K w P H es kvs → DenE K w P H (e :: es) ((k, d) :: kvs)
end

/-- how the heap goes on: what is not in P stays, what joins P is new -/
structure Go (P : Addr → Prop) (H : Hp) (P' : Addr → Prop) (H' : Hp) : Prop where
  keep : ∀ a o, H a = some o → ¬ P a → H' a = some o
  priv : ∀ a, P' a → P a ∨ H a = none
  dom : ∀ a, H a ≠ none → H' a ≠ none
section
variable {P P' P1 : Addr → Prop} {H H' H1 : Hp}
theorem Go.refl : Go P H P H := ⟨fun _ _ h _ => h, fun _ h => .inl h, fun _ h => h⟩
theorem Go.sub (h : ∀ a, P' a → P a) : Go P H P' H := ⟨fun _ _ h _ => h, fun a q => .inl (h a q), fun _ h => h⟩
theorem Go.trans (g : Go P H P1 H1) (g' : Go P1 H1 P' H') : Go P H P' H' := by
  refine ⟨fun a o h n => g'.keep a o (g.keep a o h n) fun q => ?_, fun a q => ?_, fun a h => g'.dom a (g.dom a h)⟩
  · rcases g.priv a q with z | z
    · exact n z
    · rw [h] at z; cases z
  · rcases g'.priv a q with z | z
    · exact g.priv a z
    · by_cases h : H a = none
      · exact .inr h
      · exact absurd z (g.dom a h)
/-- only new objects -/
theorem Go.same (h : Same H H') (hp : ∀ a, P' a → P a ∨ H a = none) : Go P H P' H' :=
  ⟨fun a o e _ => h a o e, hp, fun a e => by
    cases q : H a with
    | none => exact absurd q e
    | some o => rw [h a o q]; simp⟩
theorem rd_go (g : Go P H P' H') {a : Addr} {u : HO} (n : ¬ P a) (r : Rd H a u) : Rd H' a u ∧ ¬ P' a := by
  have k : ∀ o, H a = some o → ¬ P' a := fun o h q => by
    rcases g.priv a q with z | z
    · exact n z
    · rw [h] at z; cases z
  rcases r with h | ⟨o, h⟩
  · exact ⟨.inl (g.keep _ _ h n), k _ h⟩
  · exact ⟨.inr ⟨o, g.keep _ _ h n⟩, k _ h⟩
theorem DicAt.go {a : Addr} {es : Array DictEntry} {kvs : List (D × D)} (g : Go P H P' H') (n : ¬ P a) (x : DicAt H a es kvs) : DicAt H' a es kvs ∧ ¬ P' a := by
  obtain ⟨⟨o, ep, h, e1, e2⟩, h2, h3, h4⟩ := x
  refine ⟨⟨⟨o, ep, g.keep _ _ h n, e1, e2⟩, h2, h3, h4⟩, fun q => ?_⟩
  rcases g.priv a q with z | z
  · exact n z
  · rw [h] at z; cases z
variable {K : PySem.W.Frag} {w : World}
mutual
theorem Den.go (g : Go P H P' H') : ∀ {v : V} {d : D}, Den K w P H v d → Den K w P' H' v d
  | _, _, .non => .non
  | _, _, .bl b => .bl b
  | _, _, .int i => .int i
  | _, _, .str x h => .str x h
  | _, _, .lst n r l => .lst (rd_go g n r).2 (rd_go g n r).1 (DenL.go g l)
  | _, _, .tup n r l => .tup (rd_go g n r).2 (rd_go g n r).1 (DenL.go g l)
  | _, _, .tupK r l => .tupK r (DenL.go g l)
  | _, _, .dic n x l => .dic (x.go g n).2 (x.go g n).1 (DenE.go g l)
theorem DenL.go (g : Go P H P' H') : ∀ {v : List V} {d : List D}, DenL K w P H v d → DenL K w P' H' v d
  | _, _, .nil => .nil
  | _, _, .cons h t => .cons (Den.go g h) (DenL.go g t)
theorem DenE.go (g : Go P H P' H') : ∀ {v : List DictEntry} {d : List (D × D)}, DenE K w P H v d → DenE K w P' H' v d
  | _, _, .nil => .nil
  | _, _, .cons r h k e r' h' t => .cons r (Den.go g h) k e r' (Den.go g h') (DenE.go g t)
end

/-- at a stands a container's content -/
inductive Cont (K : PySem.W.Frag) (w : World) (P : Addr → Prop) (H : Hp) (a : Addr) : D → Prop
  | lst {xs : List V} {ds : List D} : H a = some (.lst xs) → DenL K w P H xs ds → Cont K w P H a (.list ds)
  | dic {es : Array DictEntry} {kvs : List (D × D)} : DicAt H a es kvs → DenE K w P H es.toList kvs → Cont K w P H a (.dict kvs)
theorem Cont.is {a : Addr} {d : D} (c : Cont K w P H a d) : isCont d = true := by cases c <;> rfl
theorem Cont.den {a : Addr} {d : D} (c : Cont K w P H a d) (n : ¬ P a) : Den K w P H (.ref a) d := by
  cases c with
  | lst h l => exact .lst n (.inl h) l
  | dic h l => exact .dic n h l
theorem Cont.there {a : Addr} {d : D} (c : Cont K w P H a d) : H a ≠ none := by
  cases c with
  | lst h l => rw [h]; simp
  | dic h l =>
    obtain ⟨⟨o, ep, h, _⟩, _⟩ := h
    rw [h]; simp
/-- the container itself stays too -/
theorem Cont.go {a : Addr} {d : D} (g : Go P H P' H') (s : H' a = H a) (c : Cont K w P H a d) : Cont K w P' H' a d := by
  cases c with
  | lst h l => exact .lst (s.trans h) (l.go g)
  | dic h l =>
    obtain ⟨⟨o, ep, h, e1, e2⟩, h2, h3, h4⟩ := h
    exact .dic ⟨⟨o, ep, s.trans h, e1, e2⟩, h2, h3, h4⟩ (l.go g)
/-- an operand: a value, or a container that is some slot's own -/
def DenT (K : PySem.W.Frag) (w : World) (P : Addr → Prop) (H : Hp) (v : V) (d : D) : Prop := Den K w P H v d ∨ ∃ a, v = .ref a ∧ P a ∧ Cont K w P H a d

theorem DenT.list {v : V} {ds : List D} (h : DenT K w P H v (.list ds)) : ∃ a xs, v = .ref a ∧ Rd H a (.lst xs) ∧ DenL K w P H xs ds := by
  rcases h with h | ⟨a, e, _, h⟩
  · cases h with
    | lst n r l => exact ⟨_, _, rfl, r, l⟩
  · cases h with
    | lst h l => exact ⟨a, _, e, .inl h, l⟩
theorem DenT.tuple {v : V} {ds : List D} (h : DenT K w P H v (.tuple ds)) : ∃ a xs, v = .ref a ∧ SqT K H a xs ∧ DenL K w P H xs ds := by
  rcases h with h | ⟨a, e, _, h⟩
  · cases h with
    | tup n r l => exact ⟨_, _, rfl, .inl r, l⟩
    | tupK r l => exact ⟨_, _, rfl, r H, l⟩
  · cases h
theorem DenT.dict {v : V} {kvs : List (D × D)} (h : DenT K w P H v (.dict kvs)) : ∃ a es, v = .ref a ∧ DicAt H a es kvs ∧ DenE K w P H es.toList kvs := by
  rcases h with h | ⟨a, e, _, h⟩
  · cases h with
    | dic n r l => exact ⟨_, _, rfl, r, l⟩
  · cases h with
    | dic h l => exact ⟨a, _, e, h, l⟩
theorem DenT.flat {v : V} {d : D} (h : DenT K w P H v d) (c : isCont d = false) : Den K w P H v d := by
  rcases h with h | ⟨a, e, _, h⟩
  · exact h
  · rw [h.is] at c; cases c
theorem DenT.int {v : V} {i : Int} (h : DenT K w P H v (.int i)) : v = .int i := by
  cases h.flat rfl; rfl
theorem DenT.bool {v : V} {i : Bool} (h : DenT K w P H v (.bool i)) : v = .bl i := by
  cases h.flat rfl; rfl
theorem DenT.none {v : V} (h : DenT K w P H v .none) : v = .non := by
  cases h.flat rfl; rfl
theorem DenT.str {v : V} {x : Str} (h : DenT K w P H v (.str x)) : v = .str x ∧ x.length ≤ sizeLine := by
  cases h.flat rfl with
  | str _ z => exact ⟨rfl, z⟩
theorem DenL.length : ∀ {vs : List V} {ds : List D}, DenL K w P H vs ds → vs.length = ds.length
  | _, _, .nil => rfl
  | _, _, .cons _ t => congrArg (· + 1) t.length
theorem DenL.get : ∀ {vs : List V} {ds : List D} {i : Nat} {v : V}, DenL K w P H vs ds → vs[i]? = some v → ∃ d, ds[i]? = some d ∧ Den K w P H v d
  | _, _, 0, _, .cons h _, e => ⟨_, rfl, by cases (show some _ = some _ from e); exact h⟩
  | _, _, i + 1, _, .cons _ t, e => t.get (i := i) e
theorem DenL.get' : ∀ {vs : List V} {ds : List D} {i : Nat} {d : D}, DenL K w P H vs ds → ds[i]? = some d → ∃ v, vs[i]? = some v ∧ Den K w P H v d
  | _, _, 0, _, .cons h _, e => ⟨_, rfl, by cases (show some _ = some _ from e); exact h⟩
  | _, _, i + 1, _, .cons _ t, e => t.get' (i := i) e
theorem DenL.append : ∀ {vs us : List V} {ds es : List D}, DenL K w P H vs ds → DenL K w P H us es → DenL K w P H (vs ++ us) (ds ++ es)
  | _, _, _, _, .nil, h => h
  | _, _, _, _, .cons h t, q => .cons h (t.append q)
theorem DenL.take : ∀ {vs : List V} {ds : List D} (n : Nat), DenL K w P H vs ds → DenL K w P H (vs.take n) (ds.take n)
  | _, _, 0, _ => .nil
  | _, _, _ + 1, .nil => .nil
  | _, _, n + 1, .cons h t => .cons h (t.take n)
theorem DenL.drop : ∀ {vs : List V} {ds : List D} (n : Nat), DenL K w P H vs ds → DenL K w P H (vs.drop n) (ds.drop n)
  | _, _, 0, h => h
  | _, _, _ + 1, .nil => .nil
  | _, _, n + 1, .cons _ t => t.drop n
theorem DenL.set : ∀ {vs : List V} {ds : List D} {v : V} {d : D} (i : Nat), Den K w P H v d → DenL K w P H vs ds → DenL K w P H (vs.set i v) (ds.set i d)
  | _, _, _, _, _, _, .nil => .nil
  | _, _, _, _, 0, q, .cons _ t => .cons q t
  | _, _, _, _, i + 1, q, .cons h t => .cons h (t.set i q)
theorem DenL.picks {vs : List V} {ds : List D} (h : DenL K w P H vs ds) : ∀ js : List Nat, DenL K w P H (js.filterMap (vs[·]?)) (js.filterMap (ds[·]?))
  | [] => .nil
  | j :: js => by
    have ih := DenL.picks h js
    cases e : vs[j]? with
    | none =>
      have e' : ds[j]? = .none := by
        rw [List.getElem?_eq_none_iff] at e ⊢
        rw [← h.length]; exact e
      simp only [List.filterMap_cons, e, e']
      exact ih
    | some v =>
      obtain ⟨d, e', q⟩ := h.get e
      simp only [List.filterMap_cons, e, e']
      exact .cons q ih
theorem DenL.rep {vs : List V} {ds : List D} (h : DenL K w P H vs ds) : ∀ n : Nat, DenL K w P H (List.replicate n vs).flatten (List.replicate n ds).flatten
  | 0 => .nil
  | n + 1 => by
    rw [List.replicate_succ, List.replicate_succ, List.flatten_cons, List.flatten_cons]
    exact h.append (h.rep n)
end

/-! ### data that is read off the model's heap -/
section
variable {X : Cx} {pins : List (Addr × Obj)} {σ : L2.St} {H : Hp} {s : Shared} {P : Addr → Prop}
theorem SqT_read (I : Inv X pins σ H s) {a : Addr} {xs : List V} (h : SqT X.K H a xs) : ∃ its o n, Vals xs its ∧ s.heap.get? a = some o ∧ o.cls = .type "tuple" ∧ o.data = .seq its.toArray n := by
  obtain ⟨its, rv, ⟨o, ho, hc, n, hd⟩, _⟩ := I.tuple h
  exact ⟨its, o, n, rv, ho, hc, hd⟩
theorem dob_read (I : Inv X pins σ H s) {a : Addr} {o : Obj} (h : H a = some (dob a o)) : s.heap.get? a = some o := (I.hok a _ h).1
mutual
theorem Den.reads (I : Inv X pins σ H s) : ∀ (d : D) (v : V) (u : Value), Den X.K X.w P H v d → RelV v u → ∃ as, Reads s.heap u d as
  | .none, _, _, h, r => by
    cases h
    cases r
    exact ⟨_, Reads.none⟩
  | .bool b, _, _, h, r => by
    cases h
    cases r
    exact ⟨_, Reads.bool b⟩
  | .int i, _, _, h, r => by
    cases h
    obtain ⟨t, rfl⟩ := r
    exact ⟨_, Reads.int i t⟩
  | .str x, _, _, h, r => by
    cases h
    obtain ⟨t, rfl⟩ := r
    exact ⟨_, Reads.str x t⟩
  | .list ds, _, _, h, r => by
    cases h with
    | lst n hs ha =>
      cases r
      obtain ⟨its, rv, ⟨o, n, ho, hc, _, hd⟩, _⟩ := I.list (.inl hs)
      obtain ⟨as, hr⟩ := DenL.reads I ds _ its ha rv
      exact ⟨_, Reads.list ho hc hd hr⟩
  | .tuple ds, _, _, h, r => by
    cases h with
    | tup n hs ha =>
      cases r
      obtain ⟨its, o, n, rv, ho, hc, hd⟩ := SqT_read I (.inl hs)
      obtain ⟨as, hr⟩ := DenL.reads I ds _ its ha rv
      exact ⟨_, Reads.tuple ho hc hd hr⟩
    | tupK hs ha =>
      cases r
      obtain ⟨its, o, n, rv, ho, hc, hd⟩ := SqT_read I (hs H)
      obtain ⟨as, hr⟩ := DenL.reads I ds _ its ha rv
      exact ⟨_, Reads.tuple ho hc hd hr⟩
  | .dict kvs, _, _, h, r => by
    cases h with
    | dic n hs ha =>
      cases r
      obtain ⟨⟨o, ep, ho, hc, hd⟩, _⟩ := hs
      obtain ⟨as, bs, h1, h2⟩ := DenE.reads I kvs _ ha
      exact ⟨_, Reads.dict (dob_read I ho) hc.1 hd h1 h2⟩
theorem DenL.reads (I : Inv X pins σ H s) : ∀ (ds : List D) (vs : List V) (us : List Value), DenL X.K X.w P H vs ds → Vals vs us → ∃ as, ReadsAll s.heap us ds as
  | [], _, _, h, r => by
    cases h
    cases r
    exact ⟨_, ReadsAll.nil⟩
  | d :: ds, _, _, h, r => by
    cases h with
    | cons h1 h2 =>
      cases r with
      | cons r1 r2 =>
        obtain ⟨as, q1⟩ := Den.reads I d _ _ h1 r1
        obtain ⟨bs, q2⟩ := DenL.reads I ds _ _ h2 r2
        exact ⟨_, ReadsAll.cons q1 q2⟩
theorem DenE.reads (I : Inv X pins σ H s) : ∀ (kvs : List (D × D)) (es : List DictEntry), DenE X.K X.w P H es kvs → ∃ as bs, ReadsAll s.heap (es.map (·.key)) (kvs.map (·.1)) as ∧ ReadsAll s.heap (es.map (·.val)) (kvs.map (·.2)) bs
  | [], _, h => by
    cases h
    exact ⟨_, _, ReadsAll.nil, ReadsAll.nil⟩
  | (k, d) :: kvs, _, h => by
    cases h with
    | cons r1 h1 hk he r2 h2 t =>
      obtain ⟨as, q1⟩ := Den.reads I k _ _ h1 r1
      obtain ⟨bs, q2⟩ := Den.reads I d _ _ h2 r2
      obtain ⟨cs, ds, q3, q4⟩ := DenE.reads I kvs _ t
      exact ⟨_, _, ReadsAll.cons q1 q3, ReadsAll.cons q2 q4⟩
end
theorem DenT.reads (I : Inv X pins σ H s) {d : D} {v : V} {u : Value} (h : DenT X.K X.w P H v d) (r : RelV v u) : ∃ as, Reads s.heap u d as := by
  rcases h with h | ⟨a, e, _, h⟩
  · exact Den.reads I d v u h r
  · exact Den.reads (P := fun _ => False) I d v u (by
      subst e
      have z : Cont X.K X.w (fun _ => False) H a d := h.go (P' := fun _ => False) (Go.sub fun _ q => q.elim) rfl
      exact z.den fun q => q) r
theorem DenL.readsA (I : Inv X pins σ H s) {ds : List D} {vs : List V} {us : List Value} (h : DenL X.K X.w P H vs ds) (r : Vals vs us) : ∃ as, ReadsAll s.heap us.toArray.toList ds as := by
  rw [List.toList_toArray]
  exact DenL.reads I ds vs us h r
/-- a list or a tuple, as an operand -/
theorem DenT.seq {v : V} {d : D} {ds : List D} (h : DenT X.K X.w P H v d) (e : seqOf d = some ds) : ∃ a xs, v = .ref a ∧ DenL X.K X.w P H xs ds ∧ ((d = .list ds ∧ Rd H a (.lst xs)) ∨ (d = .tuple ds ∧ SqT X.K H a xs)) := by
  cases d with
  | list xs =>
    cases (show some xs = some ds from e)
    obtain ⟨a, us, e1, r, l⟩ := h.list
    exact ⟨a, us, e1, l, .inl ⟨rfl, r⟩⟩
  | tuple xs =>
    cases (show some xs = some ds from e)
    obtain ⟨a, us, e1, r, l⟩ := h.tuple
    exact ⟨a, us, e1, l, .inr ⟨rfl, r⟩⟩
  | _ => cases (show Option.none = some ds from e)
end

/-! ### the slots and the heap -/
/-- a is some slot's own container -/
def Ow (ρ : Ro) (σ : L2.St) (a : Addr) : Prop := ∃ (i : Nat) (d : D), ρ[i]? = some (Sl.ow d) ∧ σ[i]? = some (some (V.ref a))
/-- .. or kept apart for someone else -/
def PP (Z : Addr → Prop) (ρ : Ro) (σ : L2.St) (a : Addr) : Prop := Z a ∨ Ow ρ σ a
theorem Go.pp {Z Z' : Addr → Prop} {ρ ρ' : Ro} {σ σ' : L2.St} {H H' : Hp} (g : Go (Ow ρ σ) H (Ow ρ' σ') H') (hz : ∀ a, Z' a → Z a ∨ H a = none) : Go (PP Z ρ σ) H (PP Z' ρ' σ') H' :=
  ⟨fun a o h n => g.keep a o h fun q => n (.inr q), fun a q => by
    rcases q with q | q
    · exact (hz a q).imp .inl id
    · exact (g.priv a q).imp .inr id, g.dom⟩
structure Rel (K : PySem.W.Frag) (w : World) (Z : Addr → Prop) (ρ : Ro) (σ : L2.St) (H : Hp) : Prop where
  len : ρ.length = σ.length
  sh : ∀ (i : Nat) (d : D), ρ[i]? = some (Sl.sh d) → ∃ v, σ[i]? = some (some v) ∧ Den K w (PP Z ρ σ) H v d
  ow : ∀ (i : Nat) (d : D), ρ[i]? = some (Sl.ow d) → ∃ a, σ[i]? = some (some (V.ref a)) ∧ ¬ Z a ∧ Cont K w (PP Z ρ σ) H a d
  inj : ∀ (i j : Nat) (a : Addr) (d e : D), ρ[i]? = some (Sl.ow d) → ρ[j]? = some (Sl.ow e) → σ[i]? = some (some (V.ref a)) → σ[j]? = some (some (V.ref a)) → i = j
  z : ∀ a, Z a → H a ≠ none
section
variable {K : PySem.W.Frag} {w : World} {Z Z' : Addr → Prop} {ρ : Ro} {σ : L2.St} {H H' : Hp}
theorem Rel.pp (r : Rel K w Z ρ σ H) {a : Addr} (h : PP Z ρ σ a) : H a ≠ none := by
  rcases h with h | ⟨i, d, h, e⟩
  · exact r.z a h
  · obtain ⟨b, e', _, c⟩ := r.ow i d h
    rw [e] at e'
    cases e'
    exact c.there
/-- new objects, some of them kept apart -/
theorem Rel.more (r : Rel K w Z ρ σ H) (s : Same H H') (hz : ∀ a, Z' a → Z a ∨ H a = none) (hz' : ∀ a, Z' a → H' a ≠ none) : Rel K w Z' ρ σ H' := by
  have hp : ∀ a, PP Z' ρ σ a → PP Z ρ σ a ∨ H a = none := fun a q => by
    rcases q with q | q
    · rcases hz a q with z | z
      · exact .inl (.inl z)
      · exact .inr z
    · exact .inl (.inr q)
  have g : Go (PP Z ρ σ) H (PP Z' ρ σ) H' := Go.same s hp
  refine ⟨r.len, fun i d h => ?_, fun i d h => ?_, r.inj, hz'⟩
  · obtain ⟨v, e, q⟩ := r.sh i d h
    exact ⟨v, e, q.go g⟩
  · obtain ⟨a, e, n, c⟩ := r.ow i d h
    have st : H' a = H a := by
      cases q : H a with
      | none => exact absurd q c.there
      | some o => exact s a o q
    refine ⟨a, e, fun q => ?_, c.go g st⟩
    rcases hz a q with z | z
    · exact n z
    · exact c.there z
theorem Rel.same (r : Rel K w Z ρ σ H) (s : Same H H') : Rel K w Z ρ σ H' := r.more s (fun _ h => .inl h) fun a h => by
  have := r.z a h
  cases q : H a with
  | none => exact absurd q this
  | some o => rw [s a o q]; simp
theorem Go.of_same (s : Same H H') : Go (PP Z ρ σ) H (PP Z ρ σ) H' := Go.same s fun _ h => .inl h
/-- Z may be less -/
theorem Rel.less (r : Rel K w Z ρ σ H) (h : ∀ a, Z' a → Z a) : Rel K w Z' ρ σ H := r.more (Same.refl H) (fun a q => .inl (h a q)) fun a q => r.z a (h a q)
theorem Rel.any (r : Rel K w Z ρ σ H) {i : Nat} {d : D} (h : getAny ρ i = some d) : ∃ v, σ[i]? = some (some v) ∧ DenT K w (PP Z ρ σ) H v d := by
  unfold getAny at h
  cases e : ρ[i]? with
  | none => rw [e] at h; cases h
  | some x =>
    rw [e] at h
    cases x with
    | no => cases h
    | sh d' =>
      cases (show some d' = some d from h)
      obtain ⟨v, e1, q⟩ := r.sh i _ e
      exact ⟨v, e1, .inl q⟩
    | ow d' =>
      cases (show some d' = some d from h)
      obtain ⟨a, e1, n, q⟩ := r.ow i _ e
      exact ⟨_, e1, .inr ⟨a, rfl, .inr ⟨i, _, e, e1⟩, q⟩⟩
theorem getSh_some {ρ : Ro} {i : Nat} {d : D} (h : getSh ρ i = some d) : ρ[i]? = some (Sl.sh d) := by
  unfold getSh at h
  cases e : ρ[i]? with
  | none => rw [e] at h; cases h
  | some x =>
    rw [e] at h
    cases x with
    | no => cases h
    | sh d' => cases (show some d' = some d from h); rfl
    | ow d' => cases h
theorem getOw_some {ρ : Ro} {i : Nat} {d : D} (h : getOw ρ i = some d) : ρ[i]? = some (Sl.ow d) := by
  unfold getOw at h
  cases e : ρ[i]? with
  | none => rw [e] at h; cases h
  | some x =>
    rw [e] at h
    cases x with
    | no => cases h
    | sh d' => cases h
    | ow d' => cases (show some d' = some d from h); rfl
/-- a slot's own container is given away -/
theorem Rel.escape (r : Rel K w Z ρ σ H) {i : Nat} {d : D} (h : getAny ρ i = some d) : ∃ v, σ[i]? = some (some v) ∧ Rel K w Z (ρ.set i (Sl.sh d)) σ H ∧ Den K w (PP Z (ρ.set i (Sl.sh d)) σ) H v d ∧ ∀ a, PP Z (ρ.set i (Sl.sh d)) σ a → PP Z ρ σ a := by
  have hi : i < ρ.length := by
    unfold getAny at h
    cases e : ρ[i]? with
    | none => rw [e] at h; cases h
    | some x => exact (List.getElem?_eq_some_iff.mp e).1
  have at_ : ∀ (j : Nat) (x : Sl), (ρ.set i (Sl.sh d))[j]? = some x → (j = i ∧ x = Sl.sh d) ∨ (j ≠ i ∧ ρ[j]? = some x) := fun j x e => by
    by_cases hj : j = i
    · subst hj
      rw [List.getElem?_set_self hi] at e
      exact .inl ⟨rfl, (Option.some.inj e).symm⟩
    · rw [List.getElem?_set_ne (Ne.symm hj)] at e
      exact .inr ⟨hj, e⟩
  have sub : ∀ a, PP Z (ρ.set i (Sl.sh d)) σ a → PP Z ρ σ a := fun a q => by
    rcases q with q | ⟨j, e, q, q'⟩
    · exact .inl q
    · rcases at_ j _ q with ⟨_, z⟩ | ⟨_, z⟩
      · cases z
      · exact .inr ⟨j, e, z, q'⟩
  have g : Go (PP Z ρ σ) H (PP Z (ρ.set i (Sl.sh d)) σ) H := Go.sub sub
  obtain ⟨v, ev, dv⟩ := r.any h
  have dv' : Den K w (PP Z (ρ.set i (Sl.sh d)) σ) H v d := by
    unfold getAny at h
    cases e : ρ[i]? with
    | none => rw [e] at h; cases h
    | some x =>
      rw [e] at h
      cases x with
      | no => cases h
      | sh d' =>
        cases (show some d' = some d from h)
        obtain ⟨v', e1, q⟩ := r.sh i _ e
        rw [ev] at e1
        cases e1
        exact q.go g
      | ow d' =>
        cases (show some d' = some d from h)
        obtain ⟨a, e1, n, c⟩ := r.ow i _ e
        rw [ev] at e1
        cases e1
        refine (c.go g rfl).den fun q => ?_
        rcases q with q | ⟨j, e', q, q'⟩
        · exact n q
        · rcases at_ j _ q with ⟨_, z⟩ | ⟨hj, z⟩
          · cases z
          · exact hj (r.inj j i a _ _ z e q' ev)
  refine ⟨v, ev, ⟨by rw [List.length_set]; exact r.len, fun j e q => ?_, fun j e q => ?_, fun j k a e f q q' => ?_, r.z⟩, dv', sub⟩
  · rcases at_ j _ q with ⟨z, z'⟩ | ⟨_, z⟩
    · cases z'
      subst z
      exact ⟨v, ev, dv'⟩
    · obtain ⟨v', e1, q1⟩ := r.sh j _ z
      exact ⟨v', e1, q1.go g⟩
  · rcases at_ j _ q with ⟨_, z⟩ | ⟨_, z⟩
    · cases z
    · obtain ⟨a, e1, n, c⟩ := r.ow j _ z
      exact ⟨a, e1, n, c.go g rfl⟩
  · rcases at_ j _ q with ⟨_, z⟩ | ⟨_, z⟩
    · cases z
    · rcases at_ k _ q' with ⟨_, z'⟩ | ⟨_, z'⟩
      · cases z'
      · exact r.inj j k a _ _ z z'
end
end DV
end

section
/-! what has no effect: each operation, by what its operands denote -/
namespace DV
open PySem PySem.Spec PyProof.Rows L2

/-- behind an operation: only new objects; the value denotes d, a new container is nobody's -/
def Aft (K : PySem.W.Frag) (w : World) (P : Addr → Prop) (H : Hp) (fr : Bool) (d : D) (Q : VK) : Prop :=
  ∀ v H', Same H H' → (if (fr && isCont d) = true then ∃ a, v = .ref a ∧ H a = none ∧ Cont K w (fun x => P x ∨ x = a) H' a d else Den K w P H' v d) → Q v H'
/-- what P says of the heap -/
def PIn (P : Addr → Prop) (H : Hp) : Prop := ∀ a, P a → H a ≠ none
section
variable {K : PySem.W.Frag} {w : World} {P : Addr → Prop} {H : Hp} {fr : Bool} {d : D} {Q : VK}
theorem Aft.flat (a : Aft K w P H fr d Q) {v : V} (c : isCont d = false) (h : Den K w P H v d) : Q v H := by
  refine a v H (Same.refl H) ?_
  rw [c, Bool.and_false, if_neg Bool.false_ne_true]
  exact h
theorem Aft.old (a : Aft K w P H false d Q) {v : V} (h : Den K w P H v d) : Q v H := by
  refine a v H (Same.refl H) ?_
  rw [Bool.false_and, if_neg Bool.false_ne_true]
  exact h
theorem same_new {p : Addr} {o : HO} (h : H p = none) : Same H (upd H p o) := fun b x e => by
  rw [upd_ne (ne_of_none e h)]
  exact e
theorem Go.new {p : Addr} {o : HO} (h : H p = none) : Go P H (fun x => P x ∨ x = p) (upd H p o) := Go.same (same_new h) fun a q => q.elim .inl fun e => .inr (e ▸ h)
theorem Go.new' {p : Addr} {o : HO} (h : H p = none) : Go P H P (upd H p o) := Go.same (same_new h) fun a q => .inl q
/-- a new list -/
theorem Aft.list {ds : List D} (a : Aft K w P H fr (.list ds) Q) (hP : PIn P H) {p : Addr} {xs : List V} (n : H p = none) (l : DenL K w P H xs ds) : Q (.ref p) (upd H p (.lst xs)) := by
  refine a _ _ (same_new n) ?_
  have c : Cont K w (fun x => P x ∨ x = p) (upd H p (.lst xs)) p (.list ds) := .lst upd_same (l.go (Go.new n))
  cases fr with
  | true =>
    rw [if_pos (show (true && isCont (.list ds)) = true from rfl)]
    exact ⟨p, rfl, n, c⟩
  | false =>
    rw [if_neg (show ¬ (false && isCont (.list ds)) = true from Bool.false_ne_true)]
    exact .lst (fun q => hP p q n) (.inl upd_same) (l.go (Go.new' n))
/-- a new tuple -/
theorem Aft.tuple {ds : List D} (a : Aft K w P H fr (.tuple ds) Q) (hP : PIn P H) {p : Addr} {xs : List V} (n : H p = none) (l : DenL K w P H xs ds) : Q (.ref p) (upd H p (.tup xs)) := by
  refine a _ _ (same_new n) ?_
  rw [show (fr && isCont (.tuple ds)) = false from Bool.and_false fr, if_neg Bool.false_ne_true]
  exact .tup (fun q => hP p q n) (.inl upd_same) (l.go (Go.new' n))
end

/-- two operands -/
def r2D (X : Cx) (f : D → D → Option D) (fr : Bool) : R2 := fun x y H Q => ∃ P dx dy d, PIn P H ∧ DenT X.K X.w P H x dx ∧ DenT X.K X.w P H y dy ∧ f dx dy = some d ∧ Aft X.K X.w P H fr d Q
/-- several operands -/
def rsD (X : Cx) (f : List D → Option D) (fr : Bool) : List V → Hp → VK → Prop := fun vs H Q => ∃ P ds d, PIn P H ∧ Paired (DenT X.K X.w P H) vs ds ∧ f ds = some d ∧ Aft X.K X.w P H fr d Q

section
variable {X : Cx}
theorem ite_some {α : Type} {c : Prop} [Decidable c] {a b : α} (h : (if c then some a else none) = some b) : c ∧ a = b := by
  by_cases e : c
  · rw [if_pos e] at h
    exact ⟨e, Option.some.inj h⟩
  · rw [if_neg e] at h
    cases h

/-! ### numbers and joined things -/
theorem op_cat_rd : OpR X (binaryOp .Add) (fun x y H Q => ∃ l b xs zs, x = .ref l ∧ y = .ref b ∧ Rd H l (.lst xs) ∧ Rd H b (.lst zs) ∧ xs.length + zs.length ≤ sizeLine ∧ ∀ p, H p = none → Q (.ref p) (upd H p (.lst (xs ++ zs)))) := by
  intro pins s σ H x y v u Q I rx ry h
  obtain ⟨l, b, xs, zs, rfl, rfl, hH, hB, hz, q⟩ := h
  cases rx
  cases ry
  obtain ⟨z, its, n, r, e⟩ := hH.ok I.hok
  obtain ⟨z2, its2, n2, r2, e2⟩ := hB.ok I.hok
  have hl := r.length
  have hl2 := r2.length
  refine PySem.P.add_list e e2 ?_ (by rw [List.size_toArray, List.size_toArray]; omega)
  have ea : its.toArray ++ its2.toArray = (its ++ its2).toArray := by simp
  rw [ea]
  exact ⟨.ref _, _, I.lnew (t' := s.toks) (r.append r2) (by rw [List.length_append]; omega), rfl, q _ I.fresh⟩
theorem op_addD : OpR X (binaryOp .Add) (r2D X addF true) := by
  intro pins s σ H x y v u Q I rx ry ⟨P, dx, dy, d, hP, hx, hy, hf, q⟩
  cases dx with
  | int i =>
    cases dy with
    | int j =>
      cases (show some (PyData.int (i + j)) = some d from hf)
      rw [hx.int] at rx
      rw [hy.int] at ry
      exact op_add pins s σ H _ _ v u Q I rx ry ⟨i, j, rfl, rfl, q.flat rfl (.int _)⟩
    | _ => cases (show Option.none = some d from hf)
  | str a =>
    cases dy with
    | str b =>
      obtain ⟨c, e⟩ := ite_some (show (if a.length + b.length ≤ sizeLine then some (PyData.str (a ++ b)) else none) = some d from hf)
      subst e
      rw [hx.str.1] at rx
      rw [hy.str.1] at ry
      refine op_add_str pins s σ H _ _ v u Q I rx ry ⟨a, b, rfl, rfl, c, q.flat rfl (.str _ ?_)⟩
      show (a.cps ++ b.cps).size ≤ sizeLine
      rw [Array.size_append]
      exact c
    | _ => cases (show Option.none = some d from hf)
  | list xs =>
    cases dy with
    | list ys =>
      obtain ⟨c, e⟩ := ite_some (show (if xs.length + ys.length ≤ sizeLine then some (PyData.list (xs ++ ys)) else none) = some d from hf)
      subst e
      obtain ⟨a, us, rfl, r1, l1⟩ := hx.list
      obtain ⟨b, ws, rfl, r2, l2⟩ := hy.list
      refine op_cat_rd pins s σ H _ _ v u Q I rx ry ⟨a, b, us, ws, rfl, rfl, r1, r2, by rw [l1.length, l2.length]; exact c, fun p n => ?_⟩
      exact q.list hP n (l1.append l2)
    | _ => cases (show Option.none = some d from hf)
  | tuple xs =>
    cases dy with
    | tuple ys =>
      obtain ⟨c, e⟩ := ite_some (show (if xs.length + ys.length ≤ sizeLine then some (PyData.tuple (xs ++ ys)) else none) = some d from hf)
      subst e
      have fx : Den X.K X.w P H x (.tuple xs) := hx.flat rfl
      have fy : Den X.K X.w P H y (.tuple ys) := hy.flat rfl
      obtain ⟨a, us, rfl, r1, l1⟩ := hx.tuple
      obtain ⟨b, ws, rfl, r2, l2⟩ := hy.tuple
      have n1 := l1.length
      have n2 := l2.length
      refine op_catA pins s σ H _ _ v u Q I rx ry ⟨a, b, us, ws, rfl, rfl, r1, r2, by omega, fun e => ?_, fun e1 e2 => ?_, fun e1 e2 p n => ?_⟩
      · subst e
        cases xs with
        | nil => exact q.flat rfl fy
        | cons _ _ => cases n1
      · subst e2
        cases ys with
        | nil =>
          rw [List.append_nil] at q
          exact q.flat rfl fx
        | cons _ _ => cases n2
      · exact q.tuple hP n (l1.append l2)
    | _ => cases (show Option.none = some d from hf)
  | _ => cases (show Option.none = some d from hf)
theorem op_subD : OpR X (binaryOp .Sub) (r2D X subF true) := by
  intro pins s σ H x y v u Q I rx ry ⟨P, dx, dy, d, hP, hx, hy, hf, q⟩
  cases dx with
  | int i =>
    cases dy with
    | int j =>
      cases (show some (PyData.int (i - j)) = some d from hf)
      rw [hx.int] at rx
      rw [hy.int] at ry
      exact op_sub pins s σ H _ _ v u Q I rx ry ⟨i, j, rfl, rfl, q.flat rfl (.int _)⟩
    | _ => cases (show Option.none = some d from hf)
  | _ => cases (show Option.none = some d from hf)
theorem small_iff {i : Int} (h : small i = true) : -(2 ^ 64) < i ∧ i < 2 ^ 64 := by
  unfold small at h
  have h := of_decide_eq_true h
  omega
theorem op_repR : OpR X (binaryOp .Mult) (fun x y H Q => ∃ l k xs, x = .ref l ∧ y = .int k ∧ Rd H l (.lst xs) ∧ -(2 ^ 63) ≤ k ∧ k < 2 ^ 63 ∧ xs.length * k.toNat ≤ sizeLine ∧ ∀ p, H p = none → Q (.ref p) (upd H p (.lst (List.replicate k.toNat xs).flatten))) := by
  intro pins s σ H x y v u Q I rx ry h
  obtain ⟨l, k, xs, rfl, rfl, hH, h1, h2, hz, q⟩ := h
  cases rx
  obtain ⟨t, rfl⟩ := ry
  obtain ⟨z, its, n, r, e⟩ := hH.ok I.hok
  have hl := r.length
  have room : its.toArray.size * k.toNat ≤ sizeLine := by rw [List.size_toArray, ← hl]; exact hz
  have cap : ¬ its.toArray.size * k.toNat > (2 ^ 63 - 1) / 8 := by
    have q : (sizeLine : Nat) ≤ (2 ^ 63 - 1) / 8 := by decide
    omega
  have fits : ¬ (!Builtin.List.listFitsIndex k) = true := by
    rw [fitsIndex_both h1 h2]
    simp
  have short : ¬ Builtin.List.listTooLong (its.toArray.size * k.toNat) = true := by
    rw [notLongL room]
    simp
  have f0 : ∀ m : Nat, List.foldl (fun x1 x2 => x1 ++ x2) #[] (List.replicate m its.toArray) = (List.replicate m its).flatten.toArray := fun m => by
    have q := foldl_rep its m []
    rwa [List.nil_append] at q
  have made : List.foldl (fun x1 x2 => x1 ++ x2) #[] (List.replicate (if its.toArray.isEmpty = true then 0 else k.toNat) its.toArray) = (List.replicate k.toNat its).flatten.toArray := by
    rw [f0]
    cases its with
    | nil => simp
    | cons a r' => rw [if_neg (by simp)]
  have call : wpAny (model X.prog X.w) X.A (call (.builtin "list.__mul__") [.ref l, .int k t]) (EP X pins σ Q) X.xe s :=
    call_meets F.slot_list_mul ⟨_, e, rfl⟩ F.entry_list_mul (F.args_list_mul_2 _ _) (AutoListH.list___mul___list_int_3 l its.toArray n k t fits cap short) ⟨e, by
      rw [made]
      exact ⟨.ref _, _, I.lnew (t' := s.toks) (r.rep k.toNat) (by rw [PyProof.Rows.lm_len_rep_flat, Nat.mul_comm]; exact hz), rfl, q _ I.fresh⟩⟩
  exact wpAny_binaryOp_repeat_ref (T := "list") (U := "int") (by decide) ⟨_, e, rfl⟩ (fun s' => typeIs_int s' k t) noFill_list_mul F.fills_int_mul F.slot_int_rmul repeat_list F.slot_int_index.lookup
    (call_meets F.slot_int_rmul (typeIs_int s k t) F.entry_int_rmul (F.args_int_rmul_2 _ _) (int___rmul___int_list k t l its.toArray n) ⟨e, rfl, ⟨_, e, rfl⟩, call⟩)
theorem op_mulD : OpR X (binaryOp .Mult) (r2D X mulF true) := by
  intro pins s σ H x y v u Q I rx ry ⟨P, dx, dy, d, hP, hx, hy, hf, q⟩
  cases dx with
  | int i =>
    cases dy with
    | int j =>
      obtain ⟨c, e⟩ := ite_some (show (if (small i || small j) = true then some (PyData.int (i * j)) else none) = some d from hf)
      subst e
      rw [hx.int] at rx
      rw [hy.int] at ry
      refine op_mul pins s σ H _ _ v u Q I rx ry ⟨i, j, rfl, rfl, ?_, q.flat rfl (.int _)⟩
      rcases Bool.or_eq_true_iff.mp c with c | c
      · exact .inl (small_iff c)
      · exact .inr (small_iff c)
    | _ => cases (show Option.none = some d from hf)
  | list xs =>
    cases dy with
    | int j =>
      obtain ⟨c, e⟩ := ite_some (show (if (decide (j.natAbs < 9223372036854775808) && decide (xs.length * j.toNat ≤ sizeLine)) = true then some (PyData.list ((List.replicate j.toNat xs).flatten)) else none) = some d from hf)
      subst e
      simp only [Bool.and_eq_true, decide_eq_true_eq] at c
      obtain ⟨a, us, rfl, r1, l1⟩ := hx.list
      rw [hy.int] at ry
      refine op_repR pins s σ H _ _ v u Q I rx ry ⟨a, j, us, rfl, rfl, r1, by have := c.1; omega, by have := c.1; omega, by rw [l1.length]; exact c.2, fun p n => ?_⟩
      exact q.list hP n (l1.rep _)
    | _ => cases (show Option.none = some d from hf)
  | _ => cases (show Option.none = some d from hf)
theorem op_fdivD : OpR X (binaryOp .FloorDiv) (r2D X fdivF true) := by
  intro pins s σ H x y v u Q I rx ry ⟨P, dx, dy, d, hP, hx, hy, hf, q⟩
  cases dx with
  | int i =>
    cases dy with
    | int j =>
      obtain ⟨c, e⟩ := ite_some (show (if divOk j = true then some (PyData.int (i.fdiv j)) else none) = some d from hf)
      subst e
      rw [hx.int] at rx
      rw [hy.int] at ry
      refine op_fdivN pins s σ H _ _ v u Q I rx ry ⟨i, j, rfl, rfl, ?_, q.flat rfl (.int _)⟩
      unfold divOk at c
      simpa [CDivN] using c
    | _ => cases (show Option.none = some d from hf)
  | _ => cases (show Option.none = some d from hf)
theorem op_modD : OpR X (binaryOp .Mod) (r2D X modF true) := by
  intro pins s σ H x y v u Q I rx ry ⟨P, dx, dy, d, hP, hx, hy, hf, q⟩
  cases dx with
  | int i =>
    cases dy with
    | int j =>
      have hf : (if j = 0 then none else some (PyData.int (i.fmod j))) = some d := hf
      by_cases c : j = 0
      · rw [if_pos c] at hf; cases hf
      · rw [if_neg c] at hf
        cases hf
        rw [hx.int] at rx
        rw [hy.int] at ry
        exact op_modN pins s σ H _ _ v u Q I rx ry ⟨i, j, rfl, rfl, c, q.flat rfl (.int _)⟩
    | _ => cases (show Option.none = some d from hf)
  | _ => cases (show Option.none = some d from hf)
theorem op_powD : OpR X (binaryOp .Pow) (r2D X powF true) := by
  intro pins s σ H x y v u Q I rx ry ⟨P, dx, dy, d, hP, hx, hy, hf, q⟩
  cases dx with
  | int i =>
    cases dy with
    | int j =>
      obtain ⟨c, e⟩ := ite_some (show (if (decide (0 ≤ j) && decide (j ≤ 1000000) && decide (i.natAbs < 2 ^ 64)) = true then some (PyData.int (i ^ j.toNat)) else none) = some d from hf)
      subst e
      rw [hx.int] at rx
      rw [hy.int] at ry
      refine op_pow pins s σ H _ _ v u Q I rx ry ⟨i, j, rfl, rfl, ?_, q.flat rfl (.int _)⟩
      simp only [Bool.and_eq_true, decide_eq_true_eq] at c
      exact ⟨c.1.1, c.1.2, c.2⟩
    | _ => cases (show Option.none = some d from hf)
  | _ => cases (show Option.none = some d from hf)
/-- every operator with a plain twin -/
theorem op_binD (o : Operator) : OpR X (binaryOp o) (r2D X (binF o) true) := by
  cases o with
  | Add => exact op_addD
  | Sub => exact op_subD
  | Mult => exact op_mulD
  | FloorDiv => exact op_fdivD
  | Mod => exact op_modD
  | Pow => exact op_powD
  | _ =>
    intro pins s σ H x y v u Q I rx ry ⟨P, dx, dy, d, hP, hx, hy, hf, q⟩
    cases (show Option.none = some d from hf)

/-! ### comparisons -/
theorem okD_iff {d : D} (h : okD d = true) : d.plain = true ∧ d.depth ≤ 40 := by
  unfold okD at h
  simpa using h
theorem ordB_iff {a b : D} (h : ordB a b = true) : a ≠ .none ∧ W.alike a b = true ∧ a.depth ≤ 40 := by
  unfold ordB at h
  simp only [Bool.and_eq_true, decide_eq_true_eq] at h
  exact ⟨fun e => by subst e; exact absurd h.1.1 (by simp), h.1.2, h.2⟩
theorem bool_map {o : Option Bool} {f : Bool → Bool} {d : D} (h : (o.map f).map PyData.bool = some d) : ∃ b, o = some b ∧ d = .bool (f b) := by
  cases o with
  | none => cases h
  | some b => exact ⟨b, rfl, (Option.some.inj h).symm⟩
theorem bool_of {o : Option Bool} {d : D} (h : o.map PyData.bool = some d) : ∃ b, o = some b ∧ d = .bool b := by
  cases o with
  | none => cases h
  | some b => exact ⟨b, rfl, (Option.some.inj h).symm⟩
theorem eqF_some {a b : D} {k : Bool} (h : eqF a b = some k) : okD a = true ∧ okD b = true ∧ k = PyData.eqv a b := by
  obtain ⟨c, e⟩ := ite_some (show (if (okD a && okD b) = true then some (PyData.eqv a b) else none) = some k from h)
  rw [Bool.and_eq_true] at c
  exact ⟨c.1, c.2, e.symm⟩
section
variable {pins : List (Addr × Obj)} {σ : L2.St} {H : Hp} {s : Shared} {Q : VK} {P : Addr → Prop} {k : Bool} {fr : Bool}
theorem ep_bool (I : Inv X pins σ H s) (q : Aft X.K X.w P H fr (.bool k) Q) : EP X pins σ Q (.bool k) s := ⟨.bl k, H, I, rfl, q.flat rfl (.bl k)⟩
end
theorem op_eqF (hu : X.A.units + 100 < cLine) : OpR X (compareOp .Eq) (r2D X (cmpF .Eq) true) := by
  intro pins s σ H x y v u Q I rx ry ⟨P, dx, dy, d, hP, hx, hy, hf, q⟩
  obtain ⟨b, e, rfl⟩ := bool_of hf
  obtain ⟨o1, o2, rfl⟩ := eqF_some e
  obtain ⟨as, ra⟩ := hx.reads I rx
  obtain ⟨bs, rb⟩ := hy.reads I ry
  refine SeqAt.eq_plain ra rb (okD_iff o1).1 (okD_iff o2).1 ?_ (ep_bool I q)
  have := (okD_iff o1).2
  omega
theorem op_neF (hu : X.A.units + 100 < cLine) : OpR X (compareOp .NotEq) (r2D X (cmpF .NotEq) true) := by
  intro pins s σ H x y v u Q I rx ry ⟨P, dx, dy, d, hP, hx, hy, hf, q⟩
  obtain ⟨b, e, rfl⟩ := bool_map hf
  obtain ⟨o1, o2, rfl⟩ := eqF_some e
  obtain ⟨as, ra⟩ := hx.reads I rx
  obtain ⟨bs, rb⟩ := hy.reads I ry
  refine SeqAt.ne_plain ra rb (okD_iff o1).1 (okD_iff o2).1 ?_ (ep_bool I q)
  have := (okD_iff o1).2
  omega
theorem op_ltF (hu : X.A.units + 100 < cLine) : OpR X (compareOp .Lt) (r2D X (cmpF .Lt) true) := by
  intro pins s σ H x y v u Q I rx ry ⟨P, dx, dy, d, hP, hx, hy, hf, q⟩
  obtain ⟨b, e, rfl⟩ := bool_of hf
  obtain ⟨c, rfl⟩ := ite_some (show (if ordB dx dy = true then some (W.dataLt dx dy) else none) = some b from e)
  obtain ⟨as, ra⟩ := hx.reads I rx
  obtain ⟨bs, rb⟩ := hy.reads I ry
  obtain ⟨h1, h2, h3⟩ := ordB_iff c
  exact W.lt_data ra rb h2 h1 (by omega) (ep_bool I q)
theorem op_gtF (hu : X.A.units + 100 < cLine) : OpR X (compareOp .Gt) (r2D X (cmpF .Gt) true) := by
  intro pins s σ H x y v u Q I rx ry ⟨P, dx, dy, d, hP, hx, hy, hf, q⟩
  obtain ⟨b, e, rfl⟩ := bool_of hf
  obtain ⟨c, rfl⟩ := ite_some (show (if ordB dx dy = true then some (W.dataLt dy dx) else none) = some b from e)
  obtain ⟨as, ra⟩ := hx.reads I rx
  obtain ⟨bs, rb⟩ := hy.reads I ry
  obtain ⟨h1, h2, h3⟩ := ordB_iff c
  exact W.gt_data ra rb h2 h1 (by omega) (ep_bool I q)
theorem op_leF (hu : X.A.units + 100 < cLine) : OpR X (compareOp .LtE) (r2D X (cmpF .LtE) true) := by
  intro pins s σ H x y v u Q I rx ry ⟨P, dx, dy, d, hP, hx, hy, hf, q⟩
  obtain ⟨b, e, rfl⟩ := bool_of hf
  obtain ⟨c, rfl⟩ := ite_some (show (if ordB dx dy = true then some (!W.dataLt dy dx) else none) = some b from e)
  obtain ⟨as, ra⟩ := hx.reads I rx
  obtain ⟨bs, rb⟩ := hy.reads I ry
  obtain ⟨h1, h2, h3⟩ := ordB_iff c
  exact W.le_data ra rb h2 h1 (by omega) (ep_bool I q)
theorem op_geF (hu : X.A.units + 100 < cLine) : OpR X (compareOp .GtE) (r2D X (cmpF .GtE) true) := by
  intro pins s σ H x y v u Q I rx ry ⟨P, dx, dy, d, hP, hx, hy, hf, q⟩
  obtain ⟨b, e, rfl⟩ := bool_of hf
  obtain ⟨c, rfl⟩ := ite_some (show (if ordB dx dy = true then some (!W.dataLt dx dy) else none) = some b from e)
  obtain ⟨as, ra⟩ := hx.reads I rx
  obtain ⟨bs, rb⟩ := hy.reads I ry
  obtain ⟨h1, h2, h3⟩ := ordB_iff c
  exact W.ge_data ra rb h2 h1 (by omega) (ep_bool I q)
theorem okD_list {ds : List D} (h : okD (.list ds) = true) : PyData.plainAll ds = true ∧ PyData.depthAll ds ≤ 40 := by
  obtain ⟨h1, h2⟩ := okD_iff h
  simp only [PyData.plain] at h1
  simp only [PyData.depth] at h2
  exact ⟨h1, by omega⟩
theorem okD_tuple {ds : List D} (h : okD (.tuple ds) = true) : PyData.plainAll ds = true ∧ PyData.depthAll ds ≤ 40 := by
  obtain ⟨h1, h2⟩ := okD_iff h
  simp only [PyData.plain] at h1
  simp only [PyData.depth] at h2
  exact ⟨h1, by omega⟩
end
end DV
end

section
/-! dicts -/
namespace DV
open PySem PySem.Spec PyProof.Rows L2

section
variable {K : PySem.W.Frag} {P : Program} {w : World} {Z : Addr → Prop} {H : Hp}
/-- a key carried by value, as a nested one -/
def kn : Key → NestedKey
  | .inl i => .num i
  | .inr x => .text x
theorem kn_inj {a b : Key} (h : kn a = kn b) : a = b := by
  cases a <;> cases b <;> simp [kn] at h <;> rw [h]
theorem atom_kn {d : D} {k : Key} (h : atomK d = some k) : keyN d = some (kn k) := by
  cases d with
  | int i => cases (show some (Sum.inl i) = some k from h); rfl
  | str i => cases (show some (Sum.inr i) = some k from h); rfl
  | _ => cases (show Option.none = some k from h)
theorem kn_hash (k : Key) : (kn k).hash w = keyH w k := by
  cases k with
  | inl i => rfl
  | inr x => rfl
/-- dict entries with keys carried by value -/
abbrev KA (K : PySem.W.Frag) (w : World) (Z : Addr → Prop) (H : Hp) : List (D × D) → List (Key × Value) → Prop :=
  Paired fun p q => atomK p.1 = some q.1 ∧ ∃ x, RelV x q.2 ∧ Den K w Z H x p.2
/-- .. with keys that are tuples -/
abbrev KB (K : PySem.W.Frag) (w : World) (Z : Addr → Prop) (H : Hp) : List (D × D) → List (NestedKey × Addr × Value) → Prop :=
  Paired fun p q => keyN p.1 = some q.1 ∧ tupKey p.1 = true ∧ Den K w Z H (.ref q.2.1) p.1 ∧ ∃ x, RelV x q.2.2 ∧ Den K w Z H x p.2
theorem ka_of : ∀ {es : List DictEntry} {kvs : List (D × D)}, DenE K w Z H es kvs → (∀ p ∈ kvs, (atomK p.1).isSome = true) → ∃ vs, KA K w Z H kvs vs ∧ Pairs (mixKind P w) es vs ∧ ∀ e ∈ es, ∃ k, (mixKind P w).is k e.key = true ∧ e.hash = (mixKind P w).hash k
  | _, _, .nil, _ => ⟨[], .nil, .nil, fun e h => nomatch h⟩
  | _, _, .cons (e := e) (k := k) r hk en eh r' hd t, ha => by
    obtain ⟨vs, h1, h2, h3⟩ := ka_of t fun p hp => ha p (List.mem_cons_of_mem _ hp)
    obtain ⟨a, ea⟩ := Option.isSome_iff_exists.mp (ha _ List.mem_cons_self)
    have ea : atomK k = some a := ea
    have ek : keyIs a e.key = true ∧ e.hash = keyH w a := by
      have q := atom_kn ea
      rw [en] at q
      cases q
      rw [kn_hash] at eh
      refine ⟨?_, eh⟩
      cases k with
      | int i =>
        cases (show some (Sum.inl i) = some a from ea)
        cases hk
        obtain ⟨t, e'⟩ := r
        rw [e']
        exact keyIs_int i t
      | str i =>
        cases (show some (Sum.inr i) = some a from ea)
        cases hk
        obtain ⟨t, e'⟩ := r
        rw [e']
        exact keyIs_str i t
      | _ => cases (show Option.none = some a from ea)
    refine ⟨(a, e.val) :: vs, .cons ⟨ea, _, r', hd⟩ h1, .cons ek.1 rfl h2, fun x hx => ?_⟩
    rcases List.mem_cons.mp hx with rfl | hx
    · exact ⟨a, ek.1, ek.2⟩
    · exact h3 x hx
theorem ka_keys : ∀ {kvs : List (D × D)} {vs : List (Key × Value)}, KA K w Z H kvs vs → kvs.map (fun p => keyN p.1) = vs.map fun q => some (kn q.1)
  | _, _, .nil => rfl
  | _, _, .cons r t => by rw [List.map_cons, List.map_cons, ka_keys t, atom_kn r.1]
theorem ka_nodup {kvs : List (D × D)} {vs : List (Key × Value)} (r : KA K w Z H kvs vs) : (kvs.map fun p => keyN p.1).Nodup ↔ (vs.map (·.1)).Nodup := by
  rw [ka_keys r, show (vs.map fun q => some (kn q.1)) = (vs.map (·.1)).map (fun k => some (kn k)) by rw [List.map_map]; rfl]
  exact ⟨fun h => List.Pairwise.imp (fun h e => h (by rw [e])) (List.pairwise_map.mp h), fun h => List.pairwise_map.mpr (List.Pairwise.imp (fun h e => h (kn_inj (Option.some.inj e))) h)⟩
/-- back -/
theorem ka_back : ∀ {kvs : List (D × D)} {vs : List (Key × Value)} {es : List DictEntry}, KA K w Z H kvs vs → (∀ p ∈ kvs, ∀ x, p.1 = .str x → x.length ≤ sizeLine) → Pairs (mixKind P w) es vs → (∀ e ∈ es, ∃ k, (mixKind P w).is k e.key = true ∧ e.hash = (mixKind P w).hash k) → DenE K w Z H es kvs
  | _, _, _, .nil, _, .nil, _ => .nil
  | _, _, _, .cons (a := p) (b := p2) ⟨ea, x, rx, dx⟩ t, hz, .cons (e := e) h1 h2 h3, hk => by
    obtain ⟨k, d⟩ := p
    obtain ⟨k', i1, i2⟩ := hk e List.mem_cons_self
    have ek := (mixKind P w).inj _ _ _ i1 h1
    rw [ek] at i2
    have eh : e.hash = (kn p2.1).hash w := by rw [kn_hash]; exact i2
    have ih := ka_back t (fun p hp => hz p (List.mem_cons_of_mem _ hp)) h3 fun e he => hk e (List.mem_cons_of_mem _ he)
    have ea : atomK k = some p2.1 := ea
    rw [← h2] at rx
    rcases keyIs_shape h1 with ⟨i, t', e1, e2⟩ | ⟨y, t', e1, e2⟩
    · rw [e1] at ea
      have ek : k = .int i := by
        cases k with
        | int j => cases (show some (Sum.inl j) = some (Sum.inl i) from ea); rfl
        | str j => cases (show some (Sum.inr j) = some (Sum.inl i) from ea)
        | _ => cases (show Option.none = some (Sum.inl i) from ea)
      subst ek
      exact .cons (kv := .int i) ⟨t', e2⟩ (.int i) (atom_kn ea) (by rw [eh, e1]) rx dx ih
    · rw [e1] at ea
      have ek : k = .str y := by
        cases k with
        | int j => cases (show some (Sum.inl j) = some (Sum.inr y) from ea)
        | str j => cases (show some (Sum.inr j) = some (Sum.inr y) from ea); rfl
        | _ => cases (show Option.none = some (Sum.inr y) from ea)
      subst ek
      exact .cons (kv := .str y) ⟨t', e2⟩ (.str y (hz (.str y, d) List.mem_cons_self y rfl)) (atom_kn ea) (by rw [eh, e1]) rx dx ih
/-- strings that are keys are short -/
theorem ka_short : ∀ {es : List DictEntry} {kvs : List (D × D)}, DenE K w Z H es kvs → ∀ p ∈ kvs, ∀ x, p.1 = .str x → x.length ≤ sizeLine
  | _, _, .nil, _, h, _, _ => nomatch h
  | _, _, .cons _ hk _ _ _ _ t, p, hp, x, e => by
    rcases List.mem_cons.mp hp with rfl | hp
    · have e : _ = PyData.str x := e
      subst e
      cases hk with
      | str _ h => exact h
    · exact ka_short t p hp x e

/-- looking up -/
theorem ka_get {kvs : List (D × D)} {vs : List (Key × Value)} (r : KA K w Z H kvs vs) {k : D} {a : Key} (e : atomK k = some a) :
    (∀ d, dget kvs k = some d → ∃ u x, valueAt vs a = some u ∧ RelV x u ∧ Den K w Z H x d) ∧ (dget kvs k = none → valueAt vs a = none) := by
  induction r with
  | nil => exact ⟨fun d h => by simp [dget] at h, fun _ => rfl⟩
  | @cons p q ps qs h t ih =>
    obtain ⟨ea, x, rx, dx⟩ := h
    have same : sameK p.1 k = decide (q.1 = a) := by
      unfold sameK
      rw [atom_kn ea, atom_kn e]
      by_cases z : q.1 = a
      · rw [z]; simp
      · rw [decide_eq_false z, decide_eq_false fun y => z (kn_inj (Option.some.inj y))]
    have d1 : dget (p :: ps) k = if q.1 = a then some p.2 else dget ps k := by
      unfold dget
      rw [List.find?_cons, same]
      by_cases z : q.1 = a <;> simp [z]
    have d2 : valueAt (q :: qs) a = if q.1 = a then some q.2 else valueAt qs a := by
      unfold valueAt
      rw [List.find?_cons]
      by_cases z : q.1 = a <;> simp [z]
    rw [d1, d2]
    by_cases z : q.1 = a
    · simp only [if_pos z]
      exact ⟨fun d h => ⟨q.2, x, rfl, rx, by cases h; exact dx⟩, fun h => by cases h⟩
    · simp only [if_neg z]
      exact ih
theorem ka_any {kvs : List (D × D)} {vs : List (Key × Value)} (r : KA K w Z H kvs vs) {k : D} {a : Key} (e : atomK k = some a) : (kvs.any fun p => sameK p.1 k) = vs.any fun q => decide (q.1 = a) := by
  induction r with
  | nil => rfl
  | @cons p q ps qs h t ih =>
    rw [List.any_cons, List.any_cons, ih]
    congr 1
    unfold sameK
    rw [atom_kn h.1, atom_kn e]
    by_cases z : q.1 = a
    · rw [z]; simp
    · rw [decide_eq_false z, decide_eq_false fun y => z (kn_inj (Option.some.inj y))]
theorem sameK_atom {p : D} {k : D} {q a : Key} (h : atomK p = some q) (e : atomK k = some a) : sameK p k = decide (q = a) := by
  unfold sameK
  rw [atom_kn h, atom_kn e]
  by_cases z : q = a
  · rw [z]; simp
  · rw [decide_eq_false z, decide_eq_false fun y => z (kn_inj (Option.some.inj y))]
theorem Paired.snocP {α β : Type} {F : α → β → Prop} : ∀ {l₁ : List α} {l₂ : List β} {a : α} {b : β}, Paired F l₁ l₂ → F a b → Paired F (l₁ ++ [a]) (l₂ ++ [b])
  | _, _, _, _, .nil, h => .cons h .nil
  | _, _, _, _, .cons r t, h => .cons r (Paired.snocP t h)
theorem ka_repl {k : D} {a : Key} (e : atomK k = some a) {d : D} {x : V} {u : Value} (rx : RelV x u) (dx : Den K w Z H x d) : ∀ {kvs : List (D × D)} {vs : List (Key × Value)}, KA K w Z H kvs vs →
    KA K w Z H (kvs.map fun p => if sameK p.1 k then (p.1, d) else p) (vs.map fun q => if q.1 = a then (q.1, u) else q)
  | _, _, .nil => .nil
  | _, _, .cons (a := p) (b := q) h t => by
    rw [List.map_cons, List.map_cons]
    refine .cons ?_ (ka_repl e rx dx t)
    rw [sameK_atom h.1 e]
    by_cases z : q.1 = a
    · simp only [z, decide_true, if_true]
      exact ⟨by rw [← z]; exact h.1, x, rx, dx⟩
    · simp only [decide_eq_false z, Bool.false_eq_true, if_false, if_neg z]
      exact h
theorem ka_put {kvs : List (D × D)} {vs : List (Key × Value)} (r : KA K w Z H kvs vs) {k : D} {a : Key} (e : atomK k = some a) {d : D} {x : V} {u : Value} (rx : RelV x u) (dx : Den K w Z H x d) : KA K w Z H (dput kvs k d) (stored vs a u) := by
  unfold dput stored
  rw [ka_any r e]
  by_cases z : (vs.any fun q => decide (q.1 = a)) = true
  · rw [if_pos z, if_pos z]
    exact ka_repl e rx dx r
  · rw [if_neg z, if_neg z]
    exact Paired.snocP r ⟨e, x, rx, dx⟩

/-! ### tuples as keys -/
theorem kb_of : ∀ {es : List DictEntry} {kvs : List (D × D)}, DenE K w Z H es kvs → (∀ p ∈ kvs, tupKey p.1 = true) → ∃ xs, KB K w Z H kvs xs ∧ es = xs.map (entryOfKey (nestedKind P w))
  | _, _, .nil, _ => ⟨[], .nil, rfl⟩
  | _, _, .cons (e := e) (k := k) (n := n) r hk en eh r' hd t, ha => by
    obtain ⟨xs, h1, h2⟩ := kb_of t fun p hp => ha p (List.mem_cons_of_mem _ hp)
    have tk : tupKey k = true := ha _ List.mem_cons_self
    obtain ⟨a, ea, er⟩ : ∃ a, e.key = .ref a ∧ Den K w Z H (.ref a) k := by
      unfold tupKey at tk
      cases k with
      | tuple ds =>
        cases hk with
        | tup h1 h2 h3 => exact ⟨_, r, .tup h1 h2 h3⟩
        | tupK h1 h2 => exact ⟨_, r, .tupK h1 h2⟩
      | _ => simp [isTupK] at tk
    refine ⟨(n, a, e.val) :: xs, .cons ⟨en, tk, er, _, r', hd⟩ h1, ?_⟩
    rw [List.map_cons, ← h2]
    congr 1
    obtain ⟨h, ky, v⟩ := e
    simp only at ea eh
    subst ea eh
    rfl

theorem tupKey_iff {k : D} (h : tupKey k = true) : ∃ n, keyN k = some n ∧ n.depth ≤ 8 := by
  unfold tupKey at h
  rw [Bool.and_eq_true] at h
  cases e : keyN k with
  | none => rw [e] at h; simp at h
  | some n => rw [e] at h; exact ⟨n, rfl, by simpa using h.2⟩
theorem sameK_kb {p k : D} {q n : NestedKey} (h : keyN p = some q) (e : keyN k = some n) : sameK p k = decide (q = n) := by
  unfold sameK
  rw [h, e]
  by_cases z : q = n
  · rw [z]; simp
  · rw [decide_eq_false z, decide_eq_false fun y => z (Option.some.inj y)]
theorem kb_get {kvs : List (D × D)} {xs : List (NestedKey × Addr × Value)} (r : KB K w Z H kvs xs) {k : D} {n : NestedKey} (e : keyN k = some n) :
    (∀ d, dget kvs k = some d → ∃ p x, atKey xs n = some p ∧ RelV x p.2 ∧ Den K w Z H x d) ∧ (dget kvs k = none → atKey xs n = none) := by
  induction r with
  | nil => exact ⟨fun d h => by simp [dget] at h, fun _ => rfl⟩
  | @cons p q ps qs h t ih =>
    obtain ⟨ea, _, _, x, rx, dx⟩ := h
    have d1 : dget (p :: ps) k = if q.1 = n then some p.2 else dget ps k := by
      unfold dget
      rw [List.find?_cons, sameK_kb ea e]
      by_cases z : q.1 = n <;> simp [z]
    have d2 : atKey (q :: qs) n = if q.1 = n then some q.2 else atKey qs n := by
      unfold atKey
      rw [List.find?_cons]
      by_cases z : q.1 = n <;> simp [z]
    rw [d1, d2]
    by_cases z : q.1 = n
    · simp only [if_pos z]
      exact ⟨fun d h => ⟨q.2, x, rfl, rx, by cases h; exact dx⟩, fun h => by cases h⟩
    · simp only [if_neg z]
      exact ih
theorem kb_any {kvs : List (D × D)} {xs : List (NestedKey × Addr × Value)} (r : KB K w Z H kvs xs) {k : D} {n : NestedKey} (e : keyN k = some n) : (kvs.any fun p => sameK p.1 k) = (atKey xs n).isSome := by
  induction r with
  | nil => rfl
  | @cons p q ps qs h t ih =>
    rw [List.any_cons, ih, sameK_kb h.1 e]
    unfold atKey
    rw [List.find?_cons]
    by_cases z : q.1 = n <;> simp [z]
theorem kb_put {kvs : List (D × D)} {xs : List (NestedKey × Addr × Value)} (r : KB K w Z H kvs xs) {k : D} {n : NestedKey} {b : Addr} (e : keyN k = some n) (tk : tupKey k = true) (db : Den K w Z H (.ref b) k) {d : D} {x : V} {u : Value} (rx : RelV x u) (dx : Den K w Z H x d) :
    KB K w Z H (dput kvs k d) (storedH xs n b u) := by
  unfold dput storedH
  rw [kb_any r e]
  by_cases z : (atKey xs n).isSome = true
  · rw [if_pos z, if_pos z]
    have all : ∀ {kvs : List (D × D)} {xs : List (NestedKey × Addr × Value)}, KB K w Z H kvs xs → KB K w Z H (kvs.map fun p => if sameK p.1 k then (p.1, d) else p) (xs.map (putAt n u)) := by
      intro kvs xs r
      induction r with
      | nil => exact .nil
      | @cons p q ps qs h t ih =>
        rw [List.map_cons, List.map_cons]
        refine .cons ?_ ih
        rw [sameK_kb h.1 e]
        unfold putAt
        by_cases y : q.1 = n
        · simp only [y, decide_true, if_true]
          exact ⟨by rw [← y]; exact h.1, h.2.1, h.2.2.1, x, rx, dx⟩
        · simp only [decide_eq_false y, Bool.false_eq_true, if_false, if_neg y]
          exact h
    exact all r
  · rw [if_neg z, if_neg z]
    exact Paired.snocP r ⟨e, tk, db, x, rx, dx⟩
theorem kb_keys {kvs : List (D × D)} {xs : List (NestedKey × Addr × Value)} (r : KB K w Z H kvs xs) : kvs.map (fun p => keyN p.1) = (xs.map (·.1)).map some := by
  induction r with
  | nil => rfl
  | @cons p q ps qs h t ih => rw [List.map_cons, List.map_cons, List.map_cons, ih, h.1]
theorem kb_nodup {kvs : List (D × D)} {xs : List (NestedKey × Addr × Value)} (r : KB K w Z H kvs xs) : (kvs.map fun p => keyN p.1).Nodup ↔ (xs.map (·.1)).Nodup := by
  rw [kb_keys r]
  exact ⟨fun h => List.Pairwise.imp (fun h e => h (by rw [e])) (List.pairwise_map.mp h), fun h => List.pairwise_map.mpr (List.Pairwise.imp (fun h e => h (Option.some.inj e)) h)⟩
theorem kb_back {kvs : List (D × D)} {xs : List (NestedKey × Addr × Value)} (r : KB K w Z H kvs xs) : DenE K w Z H (xs.map (entryOfKey (nestedKind P w))) kvs := by
  induction r with
  | nil => exact .nil
  | @cons p q ps qs h t ih =>
    obtain ⟨e, _, dk, x, rx, dx⟩ := h
    rw [List.map_cons]
    exact .cons (kv := .ref q.2.1) rfl dk e rfl rx dx ih
theorem kb_all {kvs : List (D × D)} {xs : List (NestedKey × Addr × Value)} (r : KB K w Z H kvs xs) : ∀ p ∈ kvs, tupKey p.1 = true := by
  induction r with
  | nil => intro p h; exact nomatch h
  | @cons p q ps qs h t ih =>
    intro x hx
    rcases List.mem_cons.mp hx with rfl | hx
    · exact h.2.1
    · exact ih x hx
theorem ka_all {kvs : List (D × D)} {xs : List (Key × Value)} (r : KA K w Z H kvs xs) : ∀ p ∈ kvs, (atomK p.1).isSome = true := by
  induction r with
  | nil => intro p h; exact nomatch h
  | @cons p q ps qs h t ih =>
    intro x hx
    rcases List.mem_cons.mp hx with rfl | hx
    · rw [h.1]; rfl
    · exact ih x hx
theorem kb_mem {kvs : List (D × D)} {xs : List (NestedKey × Addr × Value)} (r : KB K w Z H kvs xs) : ∀ q ∈ xs, ∃ k, keyN k = some q.1 ∧ tupKey k = true ∧ Den K w Z H (.ref q.2.1) k := by
  induction r with
  | nil => intro p h; exact nomatch h
  | @cons p q ps qs h t ih =>
    intro x hx
    rcases List.mem_cons.mp hx with rfl | hx
    · exact ⟨_, h.1, h.2.1, h.2.2.1⟩
    · exact ih x hx
end

/-! ### in the model's heap -/
section
variable {X : Cx} {pins : List (Addr × Obj)} {σ : L2.St} {H : Hp} {s : Shared} {Z : Addr → Prop} {a : Addr} {es : Array DictEntry} {kvs : List (D × D)} {A : Around} {E : Value → Shared → Prop}
mutual
theorem Den.nested (I : Inv X pins σ H s) : ∀ {k : D} {v : V} {u : Value} {n : NestedKey}, Den X.K X.w Z H v k → RelV v u → keyN k = some n → NestedIs s.heap n u
  | .none, _, _, _, h, r, e => by cases h; cases r; cases (show some NestedKey.none = some _ from e); exact .none
  | .bool b, _, _, _, h, r, e => by cases h; cases r; cases (show some (NestedKey.num _) = some _ from e); exact .bool rfl
  | .int i, _, _, _, h, r, e => by cases h; obtain ⟨t, rfl⟩ := r; cases (show some (NestedKey.num _) = some _ from e); exact .int _ _
  | .str x, _, _, _, h, r, e => by cases h; obtain ⟨t, rfl⟩ := r; cases (show some (NestedKey.text _) = some _ from e); exact .text _ _
  | .list _, _, _, _, _, _, e => by cases (show Option.none = some _ from e)
  | .dict _, _, _, _, _, _, e => by cases (show Option.none = some _ from e)
  | .tuple ds, _, _, n, h, r, e => by
    simp only [keyN] at e
    obtain ⟨ns, e1, rfl⟩ := Option.map_eq_some_iff.mp e
    cases h with
    | tup _ hs ha =>
      cases r
      obtain ⟨its, o, m, rv, ho, hc, hd⟩ := SqT_read I (.inl hs)
      exact .tup ho hc hd (by rw [List.toList_toArray]; exact DenL.nested I ha rv e1)
    | tupK hs ha =>
      cases r
      obtain ⟨its, o, m, rv, ho, hc, hd⟩ := SqT_read I (hs H)
      exact .tup ho hc hd (by rw [List.toList_toArray]; exact DenL.nested I ha rv e1)
theorem DenL.nested (I : Inv X pins σ H s) : ∀ {ks : List D} {vs : List V} {us : List Value} {ns : List NestedKey}, DenL X.K X.w Z H vs ks → Vals vs us → keyNs ks = some ns → NestedAll s.heap ns us
  | [], _, _, _, h, r, e => by cases h; cases r; cases (show some [] = some _ from e); exact .nil
  | k :: ks, _, _, ns, h, r, e => by
    simp only [keyNs] at e
    obtain ⟨n, e1, e2⟩ := Option.bind_eq_some_iff.mp e
    obtain ⟨m, e3, rfl⟩ := Option.map_eq_some_iff.mp e2
    cases h with
    | cons h1 h2 =>
      cases r with
      | cons r1 r2 => exact .cons (Den.nested I h1 r1 e1) (DenL.nested I h2 r2 e3)
end
/-- what stands in the model's heap at a dict -/
theorem dic_view (I : Inv X pins σ H s) (hd : DicAt H a es kvs) (l : DenE X.K X.w Z H es.toList kvs) :
    ((∃ vs, KA X.K X.w Z H kvs vs ∧ s.heap.DictOf (mixKind X.prog X.w) a vs) ∨ ∃ xs, KB X.K X.w Z H kvs xs ∧ s.heap.DictOfH (nestedKind X.prog X.w) a xs) ∧
      ((∀ p ∈ kvs, (atomK p.1).isSome = true) → ∃ vs, KA X.K X.w Z H kvs vs ∧ s.heap.DictOf (mixKind X.prog X.w) a vs) ∧ ((∀ p ∈ kvs, tupKey p.1 = true) → ∃ xs, KB X.K X.w Z H kvs xs ∧ s.heap.DictOfH (nestedKind X.prog X.w) a xs) := by
  obtain ⟨⟨o, ep, ho, hx, hdt⟩, hs, hl, hk⟩ := hd
  have at_ := dob_read I ho
  have p1 : (∀ p ∈ kvs, (atomK p.1).isSome = true) → ∃ vs, KA X.K X.w Z H kvs vs ∧ s.heap.DictOf (mixKind X.prog X.w) a vs := fun hm => by
    obtain ⟨vs, h1, h2, h3⟩ := ka_of (P := X.prog) l hm
    exact ⟨vs, h1, o, es, ep, at_, hx, hdt, fun e he => h3 e (Array.mem_toList_iff.mpr he), h2, (ka_nodup h1).mp hk.apart⟩
  have p2 : (∀ p ∈ kvs, tupKey p.1 = true) → ∃ xs, KB X.K X.w Z H kvs xs ∧ s.heap.DictOfH (nestedKind X.prog X.w) a xs := fun hm => by
    obtain ⟨xs, h1, h2⟩ := kb_of (P := X.prog) l hm
    refine ⟨xs, h1, o, es, ep, at_, hx, hdt, h2, fun q hq => ?_, (kb_nodup h1).mp hk.apart⟩
    obtain ⟨k, e1, e2, e3⟩ := kb_mem h1 q hq
    obtain ⟨n, e4, e5⟩ := tupKey_iff e2
    rw [e1] at e4
    cases e4
    exact ⟨Den.nested I e3 rfl e1, e5⟩
  exact ⟨hk.make.elim (fun h => .inl (p1 h)) fun h => .inr (p2 h), p1, p2⟩
theorem keyOk_iff {k : D} (h : keyOk kvs k = true) : ((∃ b, atomK k = some b) ∧ ∀ p ∈ kvs, (atomK p.1).isSome = true) ∨ (tupKey k = true ∧ ∀ p ∈ kvs, tupKey p.1 = true) := by
  unfold keyOk at h
  simp only [Bool.or_eq_true, Bool.and_eq_true, List.all_eq_true] at h
  exact h.imp (fun h => ⟨Option.isSome_iff_exists.mp h.1, h.2⟩) fun h => h
theorem atom_rel {k : D} {b : Key} (e : atomK k = some b) {v : V} {u : Value} (h : DenT X.K X.w Z H v k) (r : RelV v u) : (mixKind X.prog X.w).is b u = true := by
  cases k with
  | int i =>
    cases (show some (Sum.inl i) = some b from e)
    rw [h.int] at r
    obtain ⟨t, rfl⟩ := r
    exact keyIs_int i t
  | str x =>
    cases (show some (Sum.inr x) = some b from e)
    rw [h.str.1] at r
    obtain ⟨t, rfl⟩ := r
    exact keyIs_str x t
  | _ => cases (show Option.none = some b from e)
theorem tup_rel (I : Inv X pins σ H s) {k : D} (tk : tupKey k = true) {v : V} {u : Value} (h : DenT X.K X.w Z H v k) (r : RelV v u) : ∃ b n, v = .ref b ∧ u = .ref b ∧ keyN k = some n ∧ (nestedKind X.prog X.w).is s.heap n b ∧ Den X.K X.w Z H (.ref b) k := by
  obtain ⟨n, e1, e2⟩ := tupKey_iff tk
  have f : isCont k = false := by
    unfold tupKey at tk
    cases k with
    | tuple _ => rfl
    | _ => simp [isTupK] at tk
  have hd := h.flat f
  have nn := Den.nested I hd r e1
  unfold tupKey at tk
  cases k with
  | tuple ds =>
    cases hd with
    | tup h1 h2 h3 => cases r; exact ⟨_, n, rfl, rfl, e1, ⟨nn, e2⟩, .tup h1 h2 h3⟩
    | tupK h1 h2 => cases r; exact ⟨_, n, rfl, rfl, e1, ⟨nn, e2⟩, .tupK h1 h2⟩
  | _ => simp [isTupK] at tk
/-- d[k], there -/
theorem dic_item (hu : A.units + 100 < cLine) (I : Inv X pins σ H s) (hd : DicAt H a es kvs) (l : DenE X.K X.w Z H es.toList kvs) {k : D} {v : V} {u : Value} (hk : DenT X.K X.w Z H v k) (r : RelV v u) (ok : keyOk kvs k = true) {d : D} (hg : dget kvs k = some d) {Q : Value → Shared → Prop}
    (h : ∀ x w' s', Inv X pins σ H s' → RelV x w' → Den X.K X.w Z H x d → Q w' s') : wpAny (model X.prog X.w) A (getItem (.ref a) u) Q E s := by
  rcases keyOk_iff ok with ⟨⟨b, e⟩, hm⟩ | ⟨tk, hm⟩
  · obtain ⟨vs, h1, h2⟩ := (dic_view I hd l).2.1 hm
    obtain ⟨w', x, e2, rx, dx⟩ := (ka_get h1 e).1 d hg
    exact wpAny_getItem_of (atom_rel e hk r) h2.mapOf e2 (h x w' _ (I.tok _) rx dx)
  · obtain ⟨xs, h1, h2⟩ := (dic_view I hd l).2.2 hm
    obtain ⟨b, n, e1, e2, e3, e4, _⟩ := tup_rel I tk hk r
    subst e2
    obtain ⟨p, x, e5, rx, dx⟩ := (kb_get h1 e3).1 d hg
    exact wpAny_getItem_heap (knd := nestedKind X.prog X.w) (show A.units + 1 + 8 < cLine by omega) e4 h2 e5 (h x _ _ (I.tok _) rx dx)
/-- k in d, k not in d -/
theorem dic_in (hu : A.units + 100 < cLine) (I : Inv X pins σ H s) (hd : DicAt H a es kvs) (l : DenE X.K X.w Z H es.toList kvs) {k : D} {v : V} {u : Value} (hk : DenT X.K X.w Z H v k) (r : RelV v u) (ok : keyOk kvs k = true) {Q : Value → Shared → Prop} (neg : Bool)
    (h : ∀ s', Inv X pins σ H s' → Q (.bool (neg ^^ (dget kvs k).isSome)) s') : wpAny (model X.prog X.w) A (compareOp (if neg then .NotIn else .In) u (.ref a)) Q E s := by
  rcases keyOk_iff ok with ⟨⟨b, e⟩, hm⟩ | ⟨tk, hm⟩
  · obtain ⟨vs, h1, h2⟩ := (dic_view I hd l).2.1 hm
    have z : (valueAt vs b).isSome = (dget kvs k).isSome := by
      cases q : dget kvs k with
      | none => rw [(ka_get h1 e).2 q]; rfl
      | some d => obtain ⟨w', x, e2, _⟩ := (ka_get h1 e).1 d q; rw [e2]; rfl
    rw [← z] at h
    cases neg with
    | false => exact wpAny_in_of (atom_rel e hk r) hd.sys h2.mapOf (by simpa using h _ (I.tok _))
    | true => exact wpAny_notIn_of (atom_rel e hk r) hd.sys h2.mapOf (by simpa using h _ (I.tok _))
  · obtain ⟨xs, h1, h2⟩ := (dic_view I hd l).2.2 hm
    obtain ⟨b, n, e1, e2, e3, e4, _⟩ := tup_rel I tk hk r
    subst e2
    have z : (atKey xs n).isSome = (dget kvs k).isSome := by
      cases q : dget kvs k with
      | none => rw [(kb_get h1 e3).2 q]; rfl
      | some d => obtain ⟨w', x, e2, _⟩ := (kb_get h1 e3).1 d q; rw [e2]; rfl
    rw [← z] at h
    cases neg with
    | false => exact wpAny_in_heap (knd := nestedKind X.prog X.w) (show A.units + 1 + 8 < cLine by omega) e4 hd.sys h2 (by simpa using h _ (I.tok _))
    | true => exact wpAny_notIn_heap (knd := nestedKind X.prog X.w) (show A.units + 1 + 8 < cLine by omega) e4 hd.sys h2 (by simpa using h _ (I.tok _))
theorem dput_len (kvs : List (D × D)) (k d : D) : (dput kvs k d).length ≤ kvs.length + 1 := by
  unfold dput
  split
  · rw [List.length_map]; omega
  · rw [List.length_append]; exact Nat.le_refl _
/-- d[k] = x -/
theorem dic_set (hu : A.units + 100 < cLine) (I : Inv X pins σ H s) (hd : DicAt H a es kvs) (l : DenE X.K X.w Z H es.toList kvs) {k : D} {v : V} {u : Value} (hk : DenT X.K X.w Z H v k) (r : RelV v u) (ok : keyOk kvs k = true) (hz : kvs.length < sizeLine)
    {d : D} {x : V} {ux : Value} (rx : RelV x ux) (dx : Den X.K X.w Z H x d) {Q : Unit → Shared → Prop}
    (h : ∀ es' o', DicAt (upd H a (dob a o')) a es' (dput kvs k d) → DenE X.K X.w Z H es'.toList (dput kvs k d) → ∀ s', Inv X pins σ (upd H a (dob a o')) s' → Q () s') : wpAny (model X.prog X.w) A (setItem (.ref a) u ux) Q E s := by
  have hl := dput_len kvs k d
  have mu : Mut (H a) := by
    obtain ⟨⟨o, ep, ho, _⟩, _⟩ := hd
    rw [ho]
    exact True.intro
  have wr : ∀ {h' : Heap} {t : Nat} {o' : Obj}, Heap.SameBut a s.heap h' → h'.get? a = some o' → Inv X pins σ (upd H a (dob a o')) { s with heap := h', toks := t } := fun {h' t o'} hs he =>
    I.write (x := a) (e := a) mu (.inl rfl) (fun b q hb z => (hs.2 b hb).trans z) ⟨_, he⟩ ⟨he, ⟨_, he⟩, fun h1 h2 e1 k => k _ e1⟩
  rcases keyOk_iff ok with ⟨⟨b, e⟩, hm⟩ | ⟨tk, hm⟩
  · obtain ⟨vs, h1, h2⟩ := (dic_view I hd l).2.1 hm
    refine wpAny_setItem_pairs (hsz := by rw [← Paired.length h1]; omega) (atom_rel e hk r) h2 fun h' dd hs => ?_
    obtain ⟨o', es', ep', g1, g2, g3, g4, g5, g6⟩ := dd
    have k1 := ka_put h1 e rx dx
    have short : ∀ p ∈ dput kvs k d, ∀ y, p.1 = .str y → y.length ≤ sizeLine := by
      intro p hp y ey
      unfold dput at hp
      have old := ka_short l
      split at hp
      · obtain ⟨p0, hp0, e0⟩ := List.mem_map.mp hp
        refine old p0 hp0 y ?_
        rw [← ey, ← e0]
        split <;> rfl
      · rcases List.mem_append.mp hp with hp | hp
        · exact old p hp y ey
        · cases List.mem_singleton.mp hp
          have ey : k = .str y := ey
          subst ey
          exact hk.str.2
    exact h es' o' ⟨⟨o', ep', upd_same, g2, g3⟩, hd.sys, by omega, ⟨(ka_nodup k1).mpr g6, .inl (ka_all k1)⟩⟩ (ka_back k1 short g5 fun e he => g4 e (Array.mem_toList_iff.mp he)) _ (wr hs g1)
  · obtain ⟨xs, h1, h2⟩ := (dic_view I hd l).2.2 hm
    obtain ⟨b, n, e1, e2, e3, e4, e5⟩ := tup_rel I tk hk r
    subst e2
    refine wpAny_setItem_heap (hsz := by rw [← Paired.length h1]; omega) (knd := nestedKind X.prog X.w) (show A.units + 1 + 8 < cLine by omega) e4 h2 fun h' dd hs => ?_
    obtain ⟨o', es', ep', g1, g2, g3, g4, g5, g6⟩ := dd
    have k1 := kb_put h1 e3 tk e5 rx dx
    exact h es' o' ⟨⟨o', ep', upd_same, g2, g3⟩, hd.sys, by omega, ⟨(kb_nodup k1).mpr g6, .inr (kb_all k1)⟩⟩ (by rw [g4]; exact kb_back k1) _ (wr hs g1)
end
end DV
end

section
/-! in, subscripts, calls of what is built in -/
namespace DV
open PySem PySem.Spec PyProof.Rows L2
section
variable {X : Cx}
theorem in_any {neg : Bool} (hu : X.A.units + 100 < cLine) {pins : List (Addr × Obj)} {σ : L2.St} {H : Hp} {s : Shared} {x y : V} {v u : Value} {Q : VK} {P : Addr → Prop} {dx dy : D} {b : Bool}
    (I : Inv X pins σ H s) (rx : RelV x v) (ry : RelV y u) (hx : DenT X.K X.w P H x dx) (hy : DenT X.K X.w P H y dy) (hf : inF dx dy = some b) (q : Q (.bl (neg ^^ b)) H) :
    wpAny (model X.prog X.w) X.A (compareOp (if neg then .NotIn else .In) v u) (EP X pins σ Q) X.xe s := by
  have fin : ∀ {t : Nat}, EP X pins σ Q (.bool (neg ^^ b)) { s with toks := t } := fun {t} => ⟨.bl _, H, I.tok t, rfl, q⟩
  cases dy with
  | list ds =>
    obtain ⟨c, rfl⟩ := ite_some (show (if (okD dx && okD (.list ds)) = true then some (ds.any fun z => PyData.eqv z dx) else none) = some b from hf)
    rw [Bool.and_eq_true] at c
    obtain ⟨as, ra⟩ := hx.reads I rx
    obtain ⟨bs, rb⟩ := hy.reads I ry
    have h1 := okD_iff c.1
    have h2 := okD_list c.2
    cases neg with
    | false => exact SeqAt.in_list_data rb ra h2.1 h1.1 (by omega) (by simpa using fin (t := s.toks))
    | true => exact SeqAt.notIn_list_data rb ra h2.1 h1.1 (by omega) (by simpa using fin (t := s.toks))
  | tuple ds =>
    obtain ⟨c, rfl⟩ := ite_some (show (if (okD dx && okD (.tuple ds)) = true then some (ds.any fun z => PyData.eqv z dx) else none) = some b from hf)
    rw [Bool.and_eq_true] at c
    obtain ⟨as, ra⟩ := hx.reads I rx
    obtain ⟨bs, rb⟩ := hy.reads I ry
    have h1 := okD_iff c.1
    have h2 := okD_tuple c.2
    cases neg with
    | false => exact SeqAt.in_tuple_data rb ra h2.1 h1.1 (by omega) (by simpa using fin (t := s.toks))
    | true => exact SeqAt.notIn_tuple_data rb ra h2.1 h1.1 (by omega) (by simpa using fin (t := s.toks))
  | str t =>
    cases dx with
    | str r =>
      cases (show some (!(Builtin.Str.occurrences t r 0 t.length 1).isEmpty) = some b from hf)
      rw [hx.str.1] at rx
      rw [hy.str.1] at ry
      cases neg with
      | false => exact op_in_str pins s σ H _ _ v u Q I rx ry ⟨r, t, rfl, rfl, by simpa using q⟩
      | true => exact op_notin_str pins s σ H _ _ v u Q I rx ry ⟨r, t, rfl, rfl, by simpa using q⟩
    | _ => cases (show Option.none = some b from hf)
  | dict kvs =>
    obtain ⟨c, rfl⟩ := ite_some (show (if keyOk kvs dx = true then some (dget kvs dx).isSome else none) = some b from hf)
    obtain ⟨a, es, rfl, hd, l⟩ := hy.dict
    cases ry
    exact dic_in hu I hd l hx rx c neg fun s' I' => ⟨.bl _, H, I', rfl, q⟩
  | _ => cases (show Option.none = some b from hf)
theorem op_inF (hu : X.A.units + 100 < cLine) : OpR X (compareOp .In) (r2D X (cmpF .In) true) := by
  intro pins s σ H x y v u Q I rx ry ⟨P, dx, dy, d, hP, hx, hy, hf, q⟩
  obtain ⟨b, e, rfl⟩ := bool_of hf
  exact in_any (neg := false) hu I rx ry hx hy e (q.flat rfl (by rw [Bool.false_xor]; exact .bl b))
theorem op_notInF (hu : X.A.units + 100 < cLine) : OpR X (compareOp .NotIn) (r2D X (cmpF .NotIn) true) := by
  intro pins s σ H x y v u Q I rx ry ⟨P, dx, dy, d, hP, hx, hy, hf, q⟩
  obtain ⟨b, e, rfl⟩ := bool_map hf
  exact in_any (neg := true) hu I rx ry hx hy e (q.flat rfl (by rw [Bool.true_xor]; exact .bl _))
/-- every comparison with a plain twin -/
theorem op_cmpD (hu : X.A.units + 100 < cLine) (o : CmpOp) : OpR X (compareOp o) (r2D X (cmpF o) true) := by
  cases o with
  | Eq => exact op_eqF hu
  | NotEq => exact op_neF hu
  | Lt => exact op_ltF hu
  | Gt => exact op_gtF hu
  | LtE => exact op_leF hu
  | GtE => exact op_geF hu
  | In => exact op_inF hu
  | NotIn => exact op_notInF hu
  | _ =>
    intro pins s σ H x y v u Q I rx ry ⟨P, dx, dy, d, hP, hx, hy, hf, q⟩
    cases (show Option.none = some d from hf)

/-! ### subscripts -/
theorem den_at {K : PySem.W.Frag} {w : World} {P : Addr → Prop} {H : Hp} {xs : List V} {ds : List D} (l : DenL K w P H xs ds) {i : Int} {d : D} (h : atI ds i = some d) : ∃ v, atI xs i = some v ∧ Den K w P H v d := by
  unfold atI at h ⊢
  obtain ⟨j, h1, h2⟩ := Option.bind_eq_some_iff.mp h
  obtain ⟨v, h3, h4⟩ := l.get' h2
  refine ⟨v, ?_, h4⟩
  rw [l.length, h1]
  exact h3
theorem ix_allD (hu : X.A.units + 100 < cLine) : IxR X (r2D X ixF false) := by
  intro value slice pins s σ H x y v u Q I rx ry ⟨P, dx, dy, d, hP, hx, hy, hf, q⟩ hs
  cases dx with
  | list ds =>
    cases dy with
    | int i =>
      obtain ⟨a, xs, rfl, r, l⟩ := hx.list
      obtain ⟨z, e, dz⟩ := den_at l (show atI ds i = some d from hf)
      exact ix_list value slice pins s σ H _ _ v u Q I rx ry ⟨a, xs, i, z, rfl, hy.int, .inl r, e, q.old dz⟩ hs
    | _ => cases (show Option.none = some d from hf)
  | tuple ds =>
    cases dy with
    | int i =>
      obtain ⟨a, xs, rfl, r, l⟩ := hx.tuple
      obtain ⟨z, e, dz⟩ := den_at l (show atI ds i = some d from hf)
      exact ix_tup value slice pins s σ H _ _ v u Q I rx ry ⟨a, xs, i, z, rfl, hy.int, r, e, q.old dz⟩ hs
    | _ => cases (show Option.none = some d from hf)
  | str t =>
    cases dy with
    | int i =>
      have hf : (signAt t i).map PyData.str = some d := hf
      unfold signAt at hf
      rw [Option.map_map] at hf
      obtain ⟨c, e, rfl⟩ := Option.map_eq_some_iff.mp hf
      exact ix_str value slice pins s σ H _ _ v u Q I rx ry ⟨t, i, c, hx.str.1, hy.int, hx.str.2, e, q.old (.str _ (by show 1 ≤ sizeLine; decide))⟩ hs
    | _ => cases (show Option.none = some d from hf)
  | dict kvs =>
    have hf : (if keyOk kvs dy then dget kvs dy else none) = some d := by
      cases dy <;> exact hf
    by_cases c : keyOk kvs dy = true
    · rw [if_pos c] at hf
      obtain ⟨a, es, rfl, hd, l⟩ := hx.dict
      cases rx
      refine tail_any (T := "dict") ?_ F.slot_dict_getitem.lookup (dic_item hu I hd l hy ry c hf fun z w' s' I' rz dz => ⟨z, H, I', rz, q.old dz⟩) hs
      obtain ⟨⟨o, ep, ho, hx', _⟩, _⟩ := hd
      exact ⟨o, dob_read I ho, hx'.1⟩
    · rw [if_neg c] at hf
      cases hf
  | _ => cases (show Option.none = some d from hf)

/-! ### parts -/
theorem cut_den {K : PySem.W.Frag} {w : World} {P : Addr → Prop} {H : Hp} {xs : List V} {ds : List D} (l : DenL K w P H xs ds) (lo hi : Option Int) : DenL K w P H (cutV xs lo hi) (cut ds lo hi) := by
  unfold cutV cut
  rw [← l.length]
  exact (l.drop _).take _
theorem cutS_cut (t : Str) (lo hi : Option Int) : cutS t lo hi = ⟨(cut t.cps.toList lo hi).toArray⟩ := by
  unfold cutS cut
  rw [show t.cps.toList.length = t.length by rw [Array.length_toList]; rfl]
/-- a slice without a step -/
def rSlD (X : Cx) : V → Option Int → Option Int → Hp → VK → Prop := fun x lo hi H Q => ∃ P dx d, PIn P H ∧ DenT X.K X.w P H x dx ∧ slF lo hi dx = some d ∧ Aft X.K X.w P H true d Q
theorem sl_allD : SlR X (rSlD X) := by
  intro pins s σ H x v vl vu lo hi sl Q I rx hs pl pu ⟨P, dx, d, hP, hx, hf, q⟩
  cases dx with
  | list ds =>
    cases (show some (PyData.list (cut ds lo hi)) = some d from hf)
    obtain ⟨a, xs, rfl, r, l⟩ := hx.list
    exact sl_list pins s σ H _ v vl vu lo hi sl Q I rx hs pl pu ⟨a, xs, rfl, .inl r, fun p n => q.list hP n (cut_den l lo hi)⟩
  | tuple ds =>
    cases (show some (PyData.tuple (cut ds lo hi)) = some d from hf)
    have fx := hx.flat rfl
    obtain ⟨a, xs, rfl, r, l⟩ := hx.tuple
    refine sl_tupA pins s σ H _ v vl vu lo hi sl Q I rx hs pl pu ⟨a, xs, rfl, r, fun h => ?_, fun h p n => q.tuple hP n (cut_den l lo hi)⟩
    refine q.flat rfl ?_
    have e : cut ds lo hi = ds := by
      unfold cut
      rw [← l.length, h.1, h.2, List.drop_zero, l.length, Nat.sub_zero, List.take_length]
    rw [e]
    exact fx
  | str t =>
    cases (show some (PyData.str ⟨(cut t.cps.toList lo hi).toArray⟩) = some d from hf)
    refine sl_str pins s σ H _ v vl vu lo hi sl Q I rx hs pl pu ⟨t, hx.str.1, hx.str.2, ?_⟩
    rw [cutS_cut]
    refine q.flat rfl (.str _ (Nat.le_trans ?_ hx.str.2))
    show (cut t.cps.toList lo hi).toArray.size ≤ t.cps.size
    rw [List.size_toArray]
    unfold cut
    rw [List.length_take, List.length_drop, Array.length_toList]
    omega
  | _ => cases (show Option.none = some d from hf)

/-- a part of a value by steps: the slice's own object stands at sl -/
def SlS (X : Cx) (r : V → Option Int → Option Int → Int → Hp → VK → Prop) : Prop :=
  ∀ (pins : List (Addr × Obj)) (s : Shared) (σ : L2.St) (H : Hp) (x : V) (v vl vu vk : Value) (lo hi : Option Int) (k : Int) (sl : Addr) (Q : VK), Inv X pins σ H s → RelV x v → s.heap.IsSliceOf sl vl vu vk → IsPart vl lo → IsPart vu hi → IsPart vk (some k) → r x lo hi k H Q →
    ∃ T id, typeLookup (.type T) "__getitem__" = pure (some (.builtin id)) ∧ s.TypeIs v T ∧ wpAny (model X.prog X.w) X.A (getItem v (.ref sl)) (EP X pins σ Q) X.xe s
def tSlS (r : V → Option Int → Option Int → Int → Hp → VK → Prop) (te : TE) (tl th : TO) (tk : TE) : TE := fun σ H Q => te σ H fun x H1 => tl σ H1 fun l H2 => th σ H2 fun u H3 => tk σ H3 fun z H4 => ∃ k, z = .int k ∧ r x l u k H4 Q
theorem pe_sliceS {r : V → Option Int → Option Int → Int → Hp → VK → Prop} {e k : Expr} {te tk : TE} {lo hi : Option Expr} {tl th : TO} {pos p2 : Pos} (hr : SlS X r) (he : PE X e te) (hl : PO X lo tl) (hu : PO X hi th) (hk : PE X k tk) :
    PE X (.Subscript e (.Slice lo hi (some k) p2) pos) (tSlS r te tl th tk) := by
  refine ⟨fun pins s σ H Q I h => ?_⟩
  refine Subscript_ (thn (he.run pins s σ H _ I h) fun v s1 ⟨x, H1, I1, r1, q1⟩ => ?_)
  refine wpAny_Slice (thn (hl.run pins s1 σ H1 _ I1 q1) fun vl s2 ⟨l, H2, I2, pl, q2⟩ => thn (hu.run pins s2 σ H2 _ I2 q2) fun vu s3 ⟨u, H3, I3, pu, q3⟩ => ?_)
  rw [evalPart_some]
  refine thn (hk.run pins s3 σ H3 _ I3 q3) fun vk s4 ⟨z, H4, I4, r4, k', e4, q4⟩ => ?_
  subst e4
  obtain ⟨t, rfl⟩ := r4
  have I5 : Inv X pins σ H4 { s4 with heap := s4.heap.push { cls := .type "slice", data := .fields #[vl, vu, .int k' t] } } := I4.kept (t' := s4.toks) fun b ob q => Heap.get?_push_of_some _ q
  obtain ⟨T, id, hT, ht, hg⟩ := hr pins { s4 with heap := s4.heap.push { cls := .type "slice", data := .fields #[vl, vu, .int k' t] } } σ H4 x v vl vu (.int k' t) l u k' s4.heap.objs.size Q I5 r1 (Heap.IsSliceOf.new ..) pl pu (.int k' t) q4
  show wpAny (model X.prog X.w) X.A (subscriptTail e (.Slice lo hi (some k) p2) v (.ref s4.heap.objs.size)) (EP X pins σ Q) X.xe { s4 with heap := s4.heap.push { cls := .type "slice", data := .fields #[vl, vu, .int k' t] } }
  exact tail_any (ops := [v, .ref s4.heap.objs.size]) ht hT hg (by with_unfolding_all rfl)
theorem pick_vals {xs : List V} {us : List Value} (r : Vals xs us) : ∀ js : List Nat, Vals (js.filterMap (xs[·]?)) (js.filterMap (us[·]?))
  | [] => .nil
  | j :: js => by
    have ih := pick_vals r js
    cases e : xs[j]? with
    | none =>
      simp only [List.filterMap_cons, e, r.none_of e]
      exact ih
    | some v =>
      obtain ⟨u, e', q⟩ := r.get e
      simp only [List.filterMap_cons, e, e']
      exact .cons q ih
theorem places_back (n : Nat) : Builtin.Slice.slicePlaces ((n : Int) - 1) (-1) (-1) = n := by
  unfold Builtin.Slice.slicePlaces
  rw [if_neg (by decide)]
  by_cases c : (n : Int) - 1 > -1
  · rw [if_pos c, show (-(-1) : Int) = 1 from rfl, Int.ediv_one]
    omega
  · rw [if_neg c]
    omega
theorem fm_some {α : Type} {l : List Nat} {f : Nat → Option α} {ys : List α} (h : l.map f = ys.map some) : l.filterMap f = ys := by
  have e : l.filterMap f = (l.map f).filterMap id := by rw [List.filterMap_map]; rfl
  rw [e, h, List.filterMap_map]
  exact List.filterMap_some
theorem pick_back {α : Type} (xs : List α) : ((List.range xs.length).filterMap fun m : Nat => xs[((xs.length : Int) - 1 + (m : Int) * (-1)).toNat]?) = xs.reverse := by
  refine fm_some ?_
  apply List.ext_getElem?
  intro i
  rw [List.getElem?_map, List.getElem?_map]
  by_cases h : i < xs.length
  · rw [List.getElem?_range h, List.getElem?_reverse h]
    have e : ((xs.length : Int) - 1 + (i : Int) * (-1)).toNat = xs.length - 1 - i := by omega
    have e2 : xs[xs.length - 1 - i]? = some (xs[xs.length - 1 - i]'(by omega)) := List.getElem?_eq_getElem _
    show some (xs[((xs.length : Int) - 1 + (i : Int) * (-1)).toNat]?) = _
    rw [e, e2]
    rfl
  · rw [List.getElem?_eq_none (by rw [List.length_range]; omega), List.getElem?_eq_none (by rw [List.length_reverse]; omega)]
    rfl
theorem sliceApplied_back {P : Program} {w : World} {A : Around} {E : Value → Shared → Prop} {s : Shared} {sl : Addr} {vl vu vk : Value} {n : Nat} {Q : Int × Int × Nat → Shared → Prop} (hs : s.heap.IsSliceOf sl vl vu vk) (pl : IsPart vl none) (pu : IsPart vu none) (pk : IsPart vk (some (-1)))
    (h : Q ((n : Int) - 1, -1, n) s) : wpAny (model P w) A (Builtin.Slice.sliceApplied (.ref sl) (pure (n : Int))) Q E s := by
  have ⟨os, hos, hcs, hds⟩ := hs
  unfold Builtin.Slice.sliceApplied Builtin.Slice.sliceFields
  refine wpAny_bind (wpAny_bind (wpAny_field hos hds (x := vl) rfl (wpAny_bind (wpAny_field hos hds (x := vu) rfl (wpAny_bind (wpAny_field hos hds (x := vk) rfl (wpAny_pure ?_)))))))
  refine wpAny_bind (HT.slicePart_ pk ?_)
  show wpAny _ _ (if ((-1 : Int) == 0) = true then _ else _) _ _ s
  rw [if_neg (by decide)]
  refine wpAny_bind (HT.slicePart_ pl (wpAny_bind (HT.slicePart_ pu (wpAny_bind (wpAny_pure ?_)))))
  show wpAny _ _ (pure ((n : Int) - 1, (-1 : Int), Builtin.Slice.slicePlaces ((n : Int) - 1) (-1) (-1))) _ _ s
  rw [places_back]
  exact wpAny_pure h
theorem getItem_tuple_back {P : Program} {w : World} {A : Around} {E : Value → Shared → Prop} {s : Shared} {t sl : Addr} {items : Array Value} {vl vu vk : Value} {Q : Value → Shared → Prop} (ht : IsTup s.heap t items) (hs : s.heap.IsSliceOf sl vl vu vk) (pl : IsPart vl none) (pu : IsPart vu none) (pk : IsPart vk (some (-1)))
    (hsz : items.size ≤ sizeLine) (h : Q (.ref s.heap.objs.size) { s with heap := s.heap.push { cls := .type "tuple", data := .seq items.toList.reverse.toArray } }) : wpAny (model P w) A (getItem (.ref t) (.ref sl)) Q E s := by
  have hok : sizeOk (.seq items.toList.reverse.toArray) := by
    show items.toList.reverse.toArray.size ≤ sizeLine
    rw [List.size_toArray, List.length_reverse, Array.length_toList]
    exact hsz
  have ⟨os, hos, hcs, hds⟩ := hs
  have hTs : s.TypeIs (.ref sl) "slice" := ⟨os, hos, hcs⟩
  unfold getItem
  try with_reducible refine wpAny_holding ?_
  first | refine wpAny_bind (wpAny_pure ?_) | skip
  refine wpAny_bind (wpAny_sequenceKey ht.typeIs (by decide) ?_)
  refine wpAny_bind (wpAny_callSpecial?_slot (name := Str.ofString "__getitem__") ht.typeIs PyProof.Rows.slot_tuple_getitem (wpAny_call_entry PyProof.Rows.slot_tuple_getitem ht.typeIs entry_tuple_getitem ?_ (args_tuple_getitem _ _)))
  show wpAny _ _ (Builtin.Tuple.tupleItemsOf (.ref t) >>= _) _ _ s
  refine wpAny_bind (tupleItemsOf_ ht (wpAny_bind (wpAny_typeOf hTs ?_)))
  rw [if_pos (by decide)]
  refine wpAny_bind (sliceApplied_back hs pl pu pk ?_)
  have hno : ¬ ((((items.size : Int) - 1) == 0 && (-1 : Int) == 1 && items.size == items.size) = true) := by simp
  show wpAny _ _ (if (((items.size : Int) - 1) == 0 && (-1 : Int) == 1 && items.size == items.size) = true then _ else _) _ _ s
  rw [if_neg hno]
  have e : ((List.range items.size).filterMap fun m : Nat => items[((items.size : Int) - 1 + (m : Int) * (-1)).toNat]?).toArray = items.toList.reverse.toArray := by
    rw [← pick_back items.toList, Array.length_toList, show (fun m : Nat => items[((items.size : Int) - 1 + (m : Int) * (-1)).toNat]?) = fun m : Nat => items.toList[((items.size : Int) - 1 + (m : Int) * (-1)).toNat]? from funext fun j => by simp]
  rw [e]
  first
    | exact wpAny_bind (m := Builtin.Tuple.tupleExact _) (wpAny_newObj_type (wpAny_pure ⟨_, rfl, wpAny_pure h⟩) hok)
    | exact wpAny_bind (m := Builtin.Tuple.tupleExact _) (wpAny_newObj_type (wpAny_bind (wpAny_pure (wpAny_pure ⟨_, rfl, wpAny_pure h⟩))) hok)
    | exact wpAny_bind (wpAny_bind (m := Builtin.Tuple.tupleExact _) (wpAny_newObj_type (wpAny_pure (wpAny_pure ⟨_, rfl, wpAny_pure h⟩)) hok))
    | exact wpAny_bind (wpAny_bind (m := Builtin.Tuple.tupleExact _) (wpAny_newObj_type (wpAny_pure ⟨_, rfl, wpAny_pure h⟩) hok))
def rSlSD (X : Cx) : V → Option Int → Option Int → Int → Hp → VK → Prop := fun x lo hi k H Q => ∃ P dx d, PIn P H ∧ DenT X.K X.w P H x dx ∧ slstF lo hi k dx = some d ∧ Aft X.K X.w P H true d Q
theorem slS_allD : SlS X (rSlSD X) := by
  intro pins s σ H x v vl vu vk lo hi k sl Q I rx hs pl pu pk ⟨P, dx, d, hP, hx, hf, q⟩
  cases dx with
  | list ds =>
    have hf : (if k = 0 then none else some (PyData.list (pickBy ds lo hi k))) = some d := hf
    by_cases c : k = 0
    · rw [if_pos c] at hf; cases hf
    · rw [if_neg c] at hf
      cases hf
      obtain ⟨a, xs, rfl, r, l⟩ := hx.list
      cases rx
      obtain ⟨its, rv, ht, hz⟩ := I.list (.inl r)
      have hlen := rv.length
      refine ⟨"list", _, slot_list_getitem.lookup, ht.isList.typeIs, ?_⟩
      refine wpAny_getItem_list_slice ht.isList hs pl pu pk (by simpa using c) ?_ (by rw [List.size_toArray] <;> omega)
      have e : slicePick its.toArray lo hi (some k) = (pickBy its lo hi k).toArray := by
        unfold slicePick pickBy
        rw [List.size_toArray, show (fun x : Nat => its.toArray[x]?) = fun x : Nat => its[x]? from funext fun j => by simp]
      rw [e]
      have hv : Vals (pickBy xs lo hi k) (pickBy its lo hi k) := by
        unfold pickBy
        rw [hlen]
        exact pick_vals rv _
      have hdl : DenL X.K X.w P H (pickBy xs lo hi k) (pickBy ds lo hi k) := by
        unfold pickBy
        rw [l.length]
        exact l.picks _
      have hsz : (pickBy xs lo hi k).length ≤ sizeLine := by
        have z := slicePick_size_le its.toArray lo hi (some k)
        rw [e, List.size_toArray, List.size_toArray, ← hv.length] at z
        omega
      refine ⟨.ref s.heap.objs.size, _, I.laid (t' := s.toks) (o := .lst (pickBy xs lo hi k)) (fun b ob q => Heap.get?_push_of_some _ q) (Nat.le_refl _) ?_, rfl, q.list hP (I.hok.fresh (Nat.le_refl _)) hdl⟩
      exact ⟨hsz, _, 0, hv, Heap.get?_push_size _ rfl⟩
  | str t =>
    have hf : (if k = 0 then none else some (PyData.str ⟨(cutBy t.cps.toList lo hi k).toArray⟩)) = some d := hf
    by_cases c : k = 0
    · rw [if_pos c] at hf; cases hf
    · rw [if_neg c] at hf
      cases hf
      rw [hx.str.1] at rx
      have hz := hx.str.2
      obtain ⟨tk, rfl⟩ := rx
      obtain ⟨os, hos, hcs, hds⟩ := hs
      obtain ⟨l, rfl, rfl⟩ := IsPart.raw pl
      obtain ⟨u, rfl, rfl⟩ := IsPart.raw pu
      cases pk with
      | int _ tk2 =>
        refine ⟨"str", _, F.slot_str_getitem.lookup, typeIs_str _ _ _, ?_⟩
        refine wpAny_getItem_str_slice (l := l) (u := u) (st := some (k, tk2)) ⟨os, hos, hcs, hds⟩ (by simpa using c) ?_
        have le := Txt.sliceBy_le t l u (k, tk2) c
        have eq : Txt.sliceBy t l u (k, tk2) = ⟨(cutBy t.cps.toList (l.map (·.1)) (u.map (·.1)) k).toArray⟩ := by
          unfold cutBy
          by_cases one : k = 1
          · subst one
            rw [if_pos rfl, ← cutS_cut, ← sliceText_cut]
            rfl
          · rw [if_neg one]
            unfold Txt.sliceBy
            rw [if_neg (by simp [one])]
            unfold slicePicked
            simp only [Option.map_some, Option.getD_some]
            rw [show t.cps.toList.length = t.length by rw [Array.length_toList]; rfl, show (fun x : Nat => t.cps[x]?) = fun x : Nat => t.cps.toList[x]? from funext fun j => by simp]
        rw [eq] at le
        show Made.post (sliceMade t tk l u (some (k, tk2))) (EP X pins σ Q) s
        have fin : Q (.str (Txt.sliceBy t l u (k, tk2))) H := by
          rw [eq]
          exact q.flat rfl (.str _ (Nat.le_trans le hz))
        unfold sliceMade
        unfold Txt.sliceBy at fin eq
        by_cases c2 : ((Option.map (·.1) (some (k, tk2))).getD 1 == 1 && (slicePicked t l u (some (k, tk2))).length == t.length) = true
        · rw [if_pos c2] at fin ⊢
          exact ⟨.str t, H, I, ⟨tk, rfl⟩, fin⟩
        · rw [if_neg c2] at fin eq ⊢
          refine ⟨?_, .str _, H, I.tok _, ⟨_, rfl⟩, fin⟩
          rw [eq]
          exact Nat.le_trans le hz
  | tuple ds =>
    have hf : (if lo = none ∧ hi = none ∧ k = -1 then some (PyData.tuple ds.reverse) else none) = some d := hf
    obtain ⟨⟨rfl, rfl, rfl⟩, e⟩ := ite_some hf
    subst e
    obtain ⟨a, xs, rfl, r, l⟩ := hx.tuple
    cases rx
    obtain ⟨its, rv, ht, hz⟩ := I.tuple r
    have hlen : its.toArray.size = xs.length := by rw [List.size_toArray]; exact rv.length.symm
    refine ⟨"tuple", _, PyProof.Rows.slot_tuple_getitem.lookup, ht.typeIs, ?_⟩
    refine getItem_tuple_back ht hs pl pu pk (by rw [hlen]; exact hz) ?_
    have hdl : DenL X.K X.w P H xs.reverse ds.reverse := by
      have := l.picks ((List.range xs.length).map fun m : Nat => ((xs.length : Int) - 1 + (m : Int) * (-1)).toNat)
      rw [List.filterMap_map, List.filterMap_map] at this
      have e1 := pick_back xs
      have e2 := pick_back ds
      rw [← l.length] at e2
      rw [← e1, ← e2]
      exact this
    have hv : Vals xs.reverse its.reverse := by
      have := pick_vals rv ((List.range xs.length).map fun m : Nat => ((xs.length : Int) - 1 + (m : Int) * (-1)).toNat)
      rw [List.filterMap_map, List.filterMap_map] at this
      have e1 := pick_back xs
      have e2 := pick_back its
      rw [← rv.length] at e2
      rw [← e1, ← e2]
      exact this
    refine ⟨.ref s.heap.objs.size, _, I.laid (t' := s.toks) (o := .tup xs.reverse) (fun b ob q => Heap.get?_push_of_some _ q) (Nat.le_refl _) ?_, rfl, q.tuple hP (I.hok.fresh (Nat.le_refl _)) hdl⟩
    exact ⟨by rw [List.length_reverse]; exact hz, _, hv, IsTup.new _ _⟩
  | _ => cases (show Option.none = some d from hf)
end
end DV
end

section
/-! calls of what is built in -/
namespace DV
open PySem PySem.Spec PyProof.Rows L2
section
theorem ints_map : ∀ {xs : List D} {ns : List Int}, intsOf xs = some ns → xs = ns.map .int
  | [], _, h => by cases (show some [] = some _ from h); rfl
  | .int i :: xs, _, h => by
    obtain ⟨ms, e, rfl⟩ := Option.map_eq_some_iff.mp (show (intsOf xs).map (i :: ·) = some _ from h)
    rw [ints_map e]; rfl
  | .none :: _, _, h => by cases (show Option.none = some _ from h)
  | .bool _ :: _, _, h => by cases (show Option.none = some _ from h)
  | .str _ :: _, _, h => by cases (show Option.none = some _ from h)
  | .list _ :: _, _, h => by cases (show Option.none = some _ from h)
  | .tuple _ :: _, _, h => by cases (show Option.none = some _ from h)
  | .dict _ :: _, _, h => by cases (show Option.none = some _ from h)
theorem bools_map : ∀ {xs : List D} {ns : List Bool}, boolsOf xs = some ns → xs = ns.map .bool
  | [], _, h => by cases (show some [] = some _ from h); rfl
  | .bool i :: xs, _, h => by
    obtain ⟨ms, e, rfl⟩ := Option.map_eq_some_iff.mp (show (boolsOf xs).map (i :: ·) = some _ from h)
    rw [bools_map e]; rfl
  | .none :: _, _, h => by cases (show Option.none = some _ from h)
  | .int _ :: _, _, h => by cases (show Option.none = some _ from h)
  | .str _ :: _, _, h => by cases (show Option.none = some _ from h)
  | .list _ :: _, _, h => by cases (show Option.none = some _ from h)
  | .tuple _ :: _, _, h => by cases (show Option.none = some _ from h)
  | .dict _ :: _, _, h => by cases (show Option.none = some _ from h)
theorem strs_map : ∀ {xs : List D} {ns : List Str}, strsOf xs = some ns → xs = ns.map .str
  | [], _, h => by cases (show some [] = some _ from h); rfl
  | .str i :: xs, _, h => by
    obtain ⟨ms, e, rfl⟩ := Option.map_eq_some_iff.mp (show (strsOf xs).map (i :: ·) = some _ from h)
    rw [strs_map e]; rfl
  | .none :: _, _, h => by cases (show Option.none = some _ from h)
  | .bool _ :: _, _, h => by cases (show Option.none = some _ from h)
  | .int _ :: _, _, h => by cases (show Option.none = some _ from h)
  | .list _ :: _, _, h => by cases (show Option.none = some _ from h)
  | .tuple _ :: _, _, h => by cases (show Option.none = some _ from h)
  | .dict _ :: _, _, h => by cases (show Option.none = some _ from h)
variable {K : PySem.W.Frag} {w : World} {P : Addr → Prop} {H : Hp}
theorem den_ints : ∀ {ns : List Int} {vs : List V}, DenL K w P H vs (ns.map .int) → vs = ns.map V.int
  | [], _, h => by cases h; rfl
  | n :: ns, _, h => by
    cases h with
    | cons h1 h2 => cases h1; rw [den_ints h2]; rfl
theorem den_strs : ∀ {ns : List Str} {vs : List V}, DenL K w P H vs (ns.map .str) → vs = ns.map V.str
  | [], _, h => by cases h; rfl
  | n :: ns, _, h => by
    cases h with
    | cons h1 h2 => cases h1; rw [den_strs h2]; rfl
theorem den1 {vs : List V} {a : D} (h : Paired (DenT K w P H) vs [a]) : ∃ v, vs = [v] ∧ DenT K w P H v a := by
  cases h with
  | cons h t => cases t; exact ⟨_, rfl, h⟩
theorem den2 {vs : List V} {a b : D} (h : Paired (DenT K w P H) vs [a, b]) : ∃ v u, vs = [v, u] ∧ DenT K w P H v a ∧ DenT K w P H u b := by
  cases h with
  | cons h t =>
    obtain ⟨u, rfl, h'⟩ := den1 t
    exact ⟨_, u, rfl, h, h'⟩
theorem den3 {vs : List V} {a b c : D} (h : Paired (DenT K w P H) vs [a, b, c]) : ∃ v u z, vs = [v, u, z] ∧ DenT K w P H v a ∧ DenT K w P H u b ∧ DenT K w P H z c := by
  cases h with
  | cons h t =>
    obtain ⟨u, z, rfl, h', h''⟩ := den2 t
    exact ⟨_, u, z, rfl, h, h', h''⟩
end
section
variable {X : Cx}
/-- one operand -/
def f1 (f : D → Option D) : List D → Option D
  | [a] => f a
  | _ => none
theorem f1_some {f : D → Option D} {ds : List D} {d : D} (h : f1 f ds = some d) : ∃ a, ds = [a] ∧ f a = some d := by
  match ds, h with
  | [a], h => exact ⟨a, rfl, h⟩
  | [], h => cases h
  | _ :: _ :: _, h => cases h
theorem c_len : CallR X (.builtin "len") (rsD X (f1 lenF) false) := by
  intro pins s σ H vs us Q I r ⟨P, ds, d, hP, hv, hf, q⟩
  obtain ⟨a, rfl, hf⟩ := f1_some hf
  obtain ⟨v, rfl, hx⟩ := den1 hv
  cases a with
  | list xs =>
    cases (show some (PyData.int (xs.length : Nat)) = some d from hf)
    obtain ⟨a, ws, rfl, rd, l⟩ := hx.list
    exact call_len_seq pins s σ H _ us Q I r ⟨a, ws, rfl, .inl (.inl rd), by rw [l.length]; exact q.old (.int _)⟩
  | tuple xs =>
    cases (show some (PyData.int (xs.length : Nat)) = some d from hf)
    obtain ⟨a, ws, rfl, rd, l⟩ := hx.tuple
    exact call_len_seq pins s σ H _ us Q I r ⟨a, ws, rfl, .inr rd, by rw [l.length]; exact q.old (.int _)⟩
  | str x =>
    cases (show some (PyData.int (x.length : Nat)) = some d from hf)
    exact call_len pins s σ H _ us Q I r ⟨.str x, x.length, by rw [hx.str.1], ⟨hx.str.2, rfl⟩, q.old (.int _)⟩
  | dict kvs =>
    cases (show some (PyData.int (kvs.length : Nat)) = some d from hf)
    obtain ⟨a, es, rfl, hd, l⟩ := hx.dict
    rw [Vals.ref1 r]
    obtain ⟨⟨o, ep, ho, h1, h2⟩, hs, hl, _⟩ := hd
    have raw : s.heap.DictRaw a es ep := ⟨o, dob_read I ho, h1, h2⟩
    have n : es.size = kvs.length := by
      have all : ∀ {es : List DictEntry} {kvs : List (D × D)}, DenE X.K X.w P H es kvs → es.length = kvs.length := by
        intro es
        induction es with
        | nil => intro kvs h; cases h; rfl
        | cons e es ih => intro kvs h; cases h with | cons _ _ _ _ _ _ t => rw [List.length_cons, List.length_cons, ih t]
      rw [← all l, Array.length_toList]
    have z := line63
    exact PyProof.Rows.call_len_slot (n := (es.size : Int)) ⟨o, dob_read I ho, h1.1⟩ F.slot_dict_len (fun Q' hq => call_len_raw hs raw hq) (by omega) (by omega) ⟨.int kvs.length, H, I.tok _, ⟨_, by rw [n]⟩, q.old (.int _)⟩
  | _ => cases (show Option.none = some d from hf)
theorem c_abs : CallR X (.builtin "abs") (rsD X (f1 absF) false) := by
  intro pins s σ H vs us Q I r ⟨P, ds, d, hP, hv, hf, q⟩
  obtain ⟨a, rfl, hf⟩ := f1_some hf
  obtain ⟨v, rfl, hx⟩ := den1 hv
  cases a with
  | int i =>
    cases (show some (PyData.int (if i < 0 then -i else i)) = some d from hf)
    exact call_abs pins s σ H _ us Q I r ⟨i, by rw [hx.int], q.old (.int _)⟩
  | _ => cases (show Option.none = some d from hf)
theorem c_int : CallR X (.type "int") (rsD X (f1 intF) false) := by
  intro pins s σ H vs us Q I r ⟨P, ds, d, hP, hv, hf, q⟩
  obtain ⟨a, rfl, hf⟩ := f1_some hf
  obtain ⟨v, rfl, hx⟩ := den1 hv
  cases a with
  | int i =>
    cases (show some (PyData.int i) = some d from hf)
    exact call_int1 pins s σ H _ us Q I r (.inl ⟨i, by rw [hx.int], q.old (.int _)⟩)
  | bool b =>
    cases (show some (PyData.int (if b then 1 else 0)) = some d from hf)
    exact call_int1 pins s σ H _ us Q I r (.inr ⟨b, by rw [hx.bool], q.old (.int _)⟩)
  | _ => cases (show Option.none = some d from hf)
theorem c_list : CallR X (.type "list") (rsD X (f1 fun a => (seqOf a).map .list) true) := by
  intro pins s σ H vs us Q I r ⟨P, ds, d, hP, hv, hf, q⟩
  obtain ⟨a, rfl, hf⟩ := f1_some hf
  obtain ⟨v, rfl, hx⟩ := den1 hv
  obtain ⟨xs, e, rfl⟩ := Option.map_eq_some_iff.mp hf
  obtain ⟨b, ws, rfl, l, h⟩ := hx.seq e
  exact call_list_of pins s σ H _ us Q I r ⟨b, ws, rfl, h.elim (fun h => .inl (.inl h.2)) (fun h => .inr h.2), fun p n => q.list hP n l⟩
theorem c_tuple : CallR X (.type "tuple") (rsD X (f1 fun a => (seqOf a).map .tuple) true) := by
  intro pins s σ H vs us Q I r ⟨P, ds, d, hP, hv, hf, q⟩
  obtain ⟨a, rfl, hf⟩ := f1_some hf
  obtain ⟨v, rfl, hx⟩ := den1 hv
  obtain ⟨xs, e, rfl⟩ := Option.map_eq_some_iff.mp hf
  obtain ⟨b, ws, rfl, l, h⟩ := hx.seq e
  refine call_tuple_of pins s σ H _ us Q I r ⟨b, ws, rfl, h.elim (fun h => .inl ⟨.inl h.2, fun p n => q.tuple hP n l⟩) (fun h => .inr ⟨h.2, ?_⟩)⟩
  rw [h.1] at hx
  exact q.flat rfl (hx.flat rfl)
theorem c_sum (hc : X.calm = true) : CallR X (.builtin "sum") (rsD X (primF .sum) false) := by
  intro pins s σ H vs us Q I r ⟨P, ds, d, hP, hv, hf, q⟩
  match ds, hf with
  | [a], hf =>
    obtain ⟨v, rfl, hx⟩ := den1 hv
    obtain ⟨xs, e0, hf⟩ := Option.bind_eq_some_iff.mp (show (seqOf a).bind (fun xs => (intsOf xs).map fun ns => PyData.int ns.sum) = some d from hf)
    obtain ⟨ns, e, rfl⟩ := Option.map_eq_some_iff.mp hf
    obtain ⟨b, ws, rfl, l, h⟩ := hx.seq e0
    rw [ints_map e] at l
    have l := den_ints l
    subst l
    rcases h with ⟨_, rd⟩ | ⟨_, st⟩
    · exact cr_sum hc pins s σ H _ us Q I r ⟨b, ns, rfl, .inl rd, q.old (.int _)⟩
    · obtain ⟨its, rv, pl, _⟩ := I.tuple st
      rw [Vals.ref1 r]
      obtain ⟨ys, ey⟩ := rv.ints.allInts.items
      have hn : numsOf (intItems ys).toList = ns := by rw [← ey]; exact rv.ints.numsOf
      rw [nums_intItems] at hn
      rw [ey] at pl
      refine W.ktm_sumG (I.ok.hd hc) pl fun h' tk t' hk => ?_
      rw [preSum_eq, List.take_of_length_le (by simp), hn]
      exact ⟨.int _, H, I.kept hk, ⟨_, rfl⟩, q.old (.int _)⟩
/-- the two of them -/
theorem c_max2 (hc : X.calm = true) : CallR X (.builtin "max") (rsD X (primF .max2) false) := by
  intro pins s σ H vs us Q I r ⟨P, ds, d, hP, hv, hf, q⟩
  match ds, hf with
  | [.int i, .int j], hf =>
    cases (show some (PyData.int (if j > i then j else i)) = some d from hf)
    obtain ⟨v, u, rfl, hx, hy⟩ := den2 hv
    exact call_max2 hc pins s σ H _ us Q I r ⟨i, j, by rw [hx.int, hy.int], q.old (.int _)⟩
theorem c_min2 (hc : X.calm = true) : CallR X (.builtin "min") (rsD X (primF .min2) false) := by
  intro pins s σ H vs us Q I r ⟨P, ds, d, hP, hv, hf, q⟩
  match ds, hf with
  | [.int i, .int j], hf =>
    cases (show some (PyData.int (if j < i then j else i)) = some d from hf)
    obtain ⟨v, u, rfl, hx, hy⟩ := den2 hv
    exact call_min2 hc pins s σ H _ us Q I r ⟨i, j, by rw [hx.int, hy.int], q.old (.int _)⟩

theorem plain_bools : ∀ bs : List Bool, PyData.plainAll (bs.map .bool) = true
  | [] => rfl
  | b :: bs => by rw [List.map_cons, PyData.plainAll, plain_bools bs]; rfl
theorem c_all (hc : X.calm = true) : CallR X (.builtin "all") (rsD X (primF .all) false) := by
  intro pins s σ H vs us Q I r ⟨P, ds, d, hP, hv, hf, q⟩
  match ds, hf with
  | [a], hf =>
    obtain ⟨v, rfl, hx⟩ := den1 hv
    obtain ⟨xs, e, hf⟩ := Option.bind_eq_some_iff.mp (show (seqOf a).bind (fun xs => (boolsOf xs).map fun bs => PyData.bool (bs.all id)) = some d from hf)
    obtain ⟨bs, e2, rfl⟩ := Option.map_eq_some_iff.mp hf
    obtain ⟨b, ws, rfl, l, h⟩ := hx.seq e
    rw [Vals.ref1 r]
    have e3 := bools_map e2
    subst e3
    have fin : ∀ h' tk, (∀ b o, s.heap.get? b = some o → h'.get? b = some o) → EP X pins σ Q (.bool ((bs.map PyData.bool).all PyData.truthy)) { s with heap := h', toks := tk } := fun h' tk hk => by
      rw [List.all_map]
      exact ⟨.bl _, H, I.kept hk, rfl, q.old (.bl _)⟩
    rcases h with ⟨_, h⟩ | ⟨_, h⟩
    · obtain ⟨its, rv, pl, _⟩ := I.list (.inl h)
      obtain ⟨as, ra⟩ := l.readsA I rv
      exact W.all_list_data (I.ok.hd hc) pl.isList ra (plain_bools bs) (fun x hx => by obtain ⟨y, _, rfl⟩ := List.mem_map.mp hx; exact True.intro) fin
    · obtain ⟨its, rv, pl, _⟩ := I.tuple h
      obtain ⟨as, ra⟩ := l.readsA I rv
      exact W.all_tuple_data (I.ok.hd hc) pl ra (plain_bools bs) (fun x hx => by obtain ⟨y, _, rfl⟩ := List.mem_map.mp hx; exact True.intro) fin
theorem c_any (hc : X.calm = true) : CallR X (.builtin "any") (rsD X (primF .any) false) := by
  intro pins s σ H vs us Q I r ⟨P, ds, d, hP, hv, hf, q⟩
  match ds, hf with
  | [a], hf =>
    obtain ⟨v, rfl, hx⟩ := den1 hv
    obtain ⟨xs, e, hf⟩ := Option.bind_eq_some_iff.mp (show (seqOf a).bind (fun xs => (boolsOf xs).map fun bs => PyData.bool (bs.any id)) = some d from hf)
    obtain ⟨bs, e2, rfl⟩ := Option.map_eq_some_iff.mp hf
    obtain ⟨b, ws, rfl, l, h⟩ := hx.seq e
    rw [Vals.ref1 r]
    have e3 := bools_map e2
    subst e3
    have fin : ∀ h' tk, (∀ b o, s.heap.get? b = some o → h'.get? b = some o) → EP X pins σ Q (.bool ((bs.map PyData.bool).any PyData.truthy)) { s with heap := h', toks := tk } := fun h' tk hk => by
      rw [List.any_map]
      exact ⟨.bl _, H, I.kept hk, rfl, q.old (.bl _)⟩
    rcases h with ⟨_, h⟩ | ⟨_, h⟩
    · obtain ⟨its, rv, pl, _⟩ := I.list (.inl h)
      obtain ⟨as, ra⟩ := l.readsA I rv
      exact W.any_list_data (I.ok.hd hc) pl.isList ra (plain_bools bs) (fun x hx => by obtain ⟨y, _, rfl⟩ := List.mem_map.mp hx; exact True.intro) fin
    · obtain ⟨its, rv, pl, _⟩ := I.tuple h
      obtain ⟨as, ra⟩ := l.readsA I rv
      exact W.any_tuple_data (I.ok.hd hc) pl ra (plain_bools bs) (fun x hx => by obtain ⟨y, _, rfl⟩ := List.mem_map.mp hx; exact True.intro) fin
theorem alikeB_iff {xs : List D} (h : alikeB xs = true) : (∀ x ∈ xs, ∀ y ∈ xs, W.alike x y = true) ∧ PyData.depthAll xs ≤ 40 := by
  unfold alikeB at h
  simp only [Bool.and_eq_true, List.all_eq_true, decide_eq_true_eq] at h
  exact h
theorem noneFree_iff {xs : List D} (h : noneFree xs = true) : ∀ x ∈ xs, x ≠ .none := by
  unfold noneFree at h
  rw [List.all_eq_true] at h
  intro x hx e
  have := h x hx
  rw [e] at this
  cases this
theorem fold_mem (lt : D → D → Bool) : ∀ (xs : List D) (x : D), xs.foldl (fun a y => if lt y a then y else a) x ∈ x :: xs
  | [], x => List.mem_cons_self
  | y :: ys, x => by
    rw [List.foldl_cons]
    have ih := fold_mem lt ys (if lt y x then y else x)
    rcases List.mem_cons.mp ih with e | h
    · rw [e]
      by_cases c : lt y x = true
      · rw [if_pos c]; simp
      · rw [if_neg c]; simp
    · exact List.mem_cons_of_mem _ (List.mem_cons_of_mem _ h)
/-- which item it is -/
theorem best_item {pins : List (Addr × Obj)} {σ : L2.St} {H : Hp} {s : Shared} {P : Addr → Prop} (I : Inv X pins σ H s) {ds : List D} {ws : List V} {its : List Value} (l : DenL X.K X.w P H ws ds) (rv : Vals ws its) (al : ∀ x ∈ ds, ∀ y ∈ ds, W.alike x y = true)
    {d : D} (hd : d ∈ ds) {i : Nat} {v : Value} {h' : Heap} {bs : List Addr} (hk : ∀ b o, s.heap.get? b = some o → h'.get? b = some o) (e : its[i]? = some v) (r : Reads h' v d bs) : ∃ x, RelV x v ∧ Den X.K X.w P H x d := by
  have hi : i < ws.length := by rw [rv.length]; exact (List.getElem?_eq_some_iff.mp e).1
  obtain ⟨u, e1, r1⟩ := rv.get (List.getElem?_eq_getElem hi)
  rw [e] at e1
  cases e1
  obtain ⟨d', e2, h2⟩ := l.get (List.getElem?_eq_getElem hi)
  obtain ⟨as, ra⟩ := Den.reads I d' _ _ h2 r1
  have same : d' = d := W.alike_unique d' d v as bs (al d' (List.mem_of_getElem? e2) d hd) (Reads.keeps hk ra) r
  rw [← same]
  exact ⟨_, r1, h2⟩
theorem c_min1 (hc : X.calm = true) (hu : X.A.units + 100 < cLine) : CallR X (.builtin "min") (rsD X (primF .min1) false) := by
  intro pins s σ H vs us Q I r ⟨P, ds, d, hP, hv, hf, q⟩
  match ds, hf with
  | [a], hf =>
    obtain ⟨v, rfl, hx⟩ := den1 hv
    obtain ⟨xs, e, hf⟩ := Option.bind_eq_some_iff.mp (show (seqOf a).bind (bestF fun y x => W.dataLt y x) = some d from hf)
    obtain ⟨b, ws, rfl, l, h⟩ := hx.seq e
    rw [Vals.ref1 r]
    cases xs with
    | nil => cases hf
    | cons x xs =>
      obtain ⟨c, rfl⟩ := ite_some (show (if (alikeB (x :: xs) && noneFree (x :: xs)) = true then some (xs.foldl (fun a y => if W.dataLt y a then y else a) x) else none) = some d from hf)
      rw [Bool.and_eq_true] at c
      obtain ⟨al, dp⟩ := alikeB_iff c.1
      have al2 : W.AlikeAll (x :: xs) := ⟨al, noneFree_iff c.2⟩
      rcases h with ⟨_, h⟩ | ⟨_, h⟩
      · obtain ⟨its, rv, pl, _⟩ := I.list (.inl h)
        obtain ⟨as, ra⟩ := l.readsA I rv
        refine W.min_list_data (I.ok.hd hc) pl.isList ra al2 (by omega) fun i v h' tk bs e r' hk => ?_
        obtain ⟨z, rz, dz⟩ := best_item I l rv al (fold_mem (fun y a => W.dataLt y a) xs x) hk (by simpa using e) r'
        exact ⟨z, H, I.kept hk, rz, q.old dz⟩
      · obtain ⟨its, rv, pl, _⟩ := I.tuple h
        obtain ⟨as, ra⟩ := l.readsA I rv
        refine W.min_tuple_data (I.ok.hd hc) pl ra al2 (by omega) fun i v h' tk bs e r' hk => ?_
        obtain ⟨z, rz, dz⟩ := best_item I l rv al (fold_mem (fun y a => W.dataLt y a) xs x) hk (by simpa using e) r'
        exact ⟨z, H, I.kept hk, rz, q.old dz⟩
theorem c_max1 (hc : X.calm = true) (hu : X.A.units + 100 < cLine) : CallR X (.builtin "max") (rsD X (primF .max1) false) := by
  intro pins s σ H vs us Q I r ⟨P, ds, d, hP, hv, hf, q⟩
  match ds, hf with
  | [a], hf =>
    obtain ⟨v, rfl, hx⟩ := den1 hv
    obtain ⟨xs, e, hf⟩ := Option.bind_eq_some_iff.mp (show (seqOf a).bind (bestF fun y x => W.dataLt x y) = some d from hf)
    obtain ⟨b, ws, rfl, l, h⟩ := hx.seq e
    rw [Vals.ref1 r]
    cases xs with
    | nil => cases hf
    | cons x xs =>
      obtain ⟨c, rfl⟩ := ite_some (show (if (alikeB (x :: xs) && noneFree (x :: xs)) = true then some (xs.foldl (fun a y => if W.dataLt a y then y else a) x) else none) = some d from hf)
      rw [Bool.and_eq_true] at c
      obtain ⟨al, dp⟩ := alikeB_iff c.1
      have al2 : W.AlikeAll (x :: xs) := ⟨al, noneFree_iff c.2⟩
      rcases h with ⟨_, h⟩ | ⟨_, h⟩
      · obtain ⟨its, rv, pl, _⟩ := I.list (.inl h)
        obtain ⟨as, ra⟩ := l.readsA I rv
        refine W.max_list_data (I.ok.hd hc) pl.isList ra al2 (by omega) fun i v h' tk bs e r' hk => ?_
        obtain ⟨z, rz, dz⟩ := best_item I l rv al (fold_mem (fun y a => W.dataLt a y) xs x) hk (by simpa using e) r'
        exact ⟨z, H, I.kept hk, rz, q.old dz⟩
      · obtain ⟨its, rv, pl, _⟩ := I.tuple h
        obtain ⟨as, ra⟩ := l.readsA I rv
        refine W.max_tuple_data (I.ok.hd hc) pl ra al2 (by omega) fun i v h' tk bs e r' hk => ?_
        obtain ⟨z, rz, dz⟩ := best_item I l rv al (fold_mem (fun y a => W.dataLt a y) xs x) hk (by simpa using e) r'
        exact ⟨z, H, I.kept hk, rz, q.old dz⟩

/-! ### sorted -/
theorem each_mk {F : Value → D → Prop} : ∀ {us : List Value} {ds : List D}, us.length = ds.length → (∀ (i : Nat) u d, us[i]? = some u → ds[i]? = some d → F u d) → W.EachIs F us ds
  | [], [], _, _ => .nil
  | [], _ :: _, h, _ => by cases h
  | _ :: _, [], h, _ => by cases h
  | u :: us, d :: ds, h, f => .cons (f 0 u d rfl rfl) (each_mk (Nat.succ.inj h) fun i u d e e' => f (i + 1) u d e e')
theorem den_rel {K : PySem.W.Frag} {w : World} {P : Addr → Prop} {H : Hp} {ws : List V} {ds : List D} {its : List Value} (l : DenL K w P H ws ds) (rv : Vals ws its) {i : Nat} {u : Value} {d : D} (e : its[i]? = some u) (e' : ds[i]? = some d) : ∃ x, RelV x u ∧ Den K w P H x d := by
  obtain ⟨v, e1, h1⟩ := l.get' e'
  obtain ⟨u', e2, r⟩ := rv.get e1
  rw [e] at e2
  cases e2
  exact ⟨v, r, h1⟩
theorem each_den {K : PySem.W.Frag} {w : World} {P : Addr → Prop} {H : Hp} : ∀ {us : List Value} {ds : List D}, W.EachIs (fun u d => ∃ x, RelV x u ∧ Den K w P H x d) us ds → ∃ ws, Vals ws us ∧ DenL K w P H ws ds
  | _, _, .nil => ⟨[], .nil, .nil⟩
  | _, _, .cons ⟨x, r, h⟩ t => by
    obtain ⟨ws, h1, h2⟩ := each_den t
    exact ⟨x :: ws, .cons r h1, .cons h h2⟩
theorem sortable_iff {xs : List D} (h : sortableB xs = true) : W.Sortable xs := by
  unfold sortableB at h
  rw [Bool.or_eq_true, List.all_eq_true, List.all_eq_true] at h
  rcases h with h | h
  · refine .inl fun d hd => ?_
    have q := h d hd
    cases d with
    | tuple ys =>
      cases ys with
      | nil => cases q
      | cons y ys => exact ⟨y, ys, rfl⟩
    | _ => cases q
  · refine .inr fun d hd => ⟨fun e => ?_, fun xs e => ?_⟩
    · have q := h d hd
      rw [e] at q
      cases q
    · have q := h d hd
      rw [e] at q
      cases q
theorem depth_mem : ∀ {xs : List D} {x : D}, x ∈ xs → x.depth ≤ PyData.depthAll xs
  | y :: ys, x, h => by
    simp only [PyData.depthAll]
    rcases List.mem_cons.mp h with rfl | h
    · exact Nat.le_max_left _ _
    · exact Nat.le_trans (depth_mem h) (Nat.le_max_right _ _)
theorem c_sorted (hu : X.A.units + 100 < cLine) : CallR X (.builtin "sorted") (rsD X (primF .sorted) true) := by
  intro pins s σ H vs us Q I r ⟨P, ds, d, hP, hv, hf, q⟩
  match ds, hf with
  | [.list xs], hf =>
    obtain ⟨v, rfl, hx⟩ := den1 hv
    obtain ⟨c, rfl⟩ := ite_some (show (if (alikeB xs && sortableB xs) = true then some (PyData.list (sortD xs)) else none) = some d from hf)
    rw [Bool.and_eq_true] at c
    obtain ⟨al, dp⟩ := alikeB_iff c.1
    obtain ⟨a, ws, rfl, rd, l⟩ := hx.list
    rw [Vals.ref1 r]
    obtain ⟨its, rv, pl, hz⟩ := I.list (.inl rd)
    have n1 := rv.length
    have n2 := l.length
    refine W.sorted_data (enc := id) (bs := xs) (R := fun u d => ∃ x, RelV x u ∧ Den X.K X.w P H x d) pl.isList (each_mk (by omega) fun i u d e e' => den_rel l rv e e') (each_mk (by omega) fun i u d e e' => ?_)
      (by rw [List.map_id]; exact al) (by rw [List.map_id]; exact sortable_iff c.2) (by omega) (fun b hb => ?_) fun out ho he => ?_
    · obtain ⟨x, rx, dx⟩ := den_rel l rv e e'
      exact Den.reads I d x u dx rx
    · have := depth_mem hb
      show X.A.units + 2 + b.depth < cLine
      omega
    · obtain ⟨zs, h1, h2⟩ := each_den he
      obtain ⟨ep, he'⟩ := PyProof.Rows.sortedAll_at s.heap its out.toArray
      have hl : zs.length ≤ sizeLine := by rw [h1.length, ho]; omega
      refine ⟨.ref _, upd H (s.heap.objs.size + 1) (.lst zs), I.laid (t' := s.toks) (fun _ _ => PyProof.Rows.sortedAll_old) (Nat.le_succ _) ⟨hl, out, ep, h1, he'⟩, rfl, ?_⟩
      exact q.list hP (I.hok.fresh (Nat.le_succ _)) h2

/-! ### isinstance -/
theorem c_isi {t : String} (ht : (isiF t .none).isSome = true) : CallR X (.builtin "isinstance") (fun vs H Q => ∃ P x dx d, PIn P H ∧ vs = [x, .ty t] ∧ DenT X.K X.w P H x dx ∧ isiF t dx = some d ∧ Aft X.K X.w P H false d Q) := by
  intro pins s σ H vs us Q I r ⟨P, x, dx, d, hP, e, hx, hf, q⟩
  subst e
  obtain ⟨u1, u2, rfl, r1, r2⟩ := vals2 r
  cases (show u2 = Value.type t from r2)
  obtain ⟨as, ra⟩ := hx.reads I r1
  have fin : ∀ {b : Bool} {tk : Nat}, some (PyData.bool b) = some d → EP X pins σ Q (.bool b) { s with toks := tk } := fun {b tk} e => by
    cases e
    exact ⟨.bl b, H, I.tok tk, rfl, q.old (.bl b)⟩
  unfold isiF at hf ht
  split at hf
  · exact W.isinstance_int_data ra fun tk _ => fin hf
  · exact W.isinstance_bool_data ra fun tk _ => fin hf
  · exact W.isinstance_str_data ra fun tk _ => fin hf
  · exact W.isinstance_tuple_data ra fun tk _ => fin hf
  · exact W.isinstance_list_data ra fun tk _ => fin hf
  · exact W.isinstance_dict_data ra fun tk _ => fin hf
  · cases hf

/-! ### methods -/
/-- a method without effect: the receiver, the operands -/
def rmD (X : Cx) (f : List D → Option D) (fr : Bool) : V → List V → Hp → VK → Prop := fun x vs H Q => rsD X f fr (x :: vs) H Q
theorem m_join : MtR X "str.join" (rmD X (primF .join) false) := by
  intro pins s σ H x vs v us Q I rx rs ⟨P, ds, d, hP, hv, hf, q⟩
  match ds, hf with
  | [.str t, a], hf =>
    obtain ⟨v1, v2, e, hx, hy⟩ := den2 hv
    cases e
    obtain ⟨xs, e, hf⟩ := Option.bind_eq_some_iff.mp (show (seqOf a).bind (fun xs => (strsOf xs).bind (joinF t)) = some d from hf)
    obtain ⟨ss, e2, hf⟩ := Option.bind_eq_some_iff.mp hf
    obtain ⟨c, rfl⟩ := ite_some (show (if joinLen t ss ≤ sizeLine then some (PyData.str (Str.join t ss)) else none) = some d from hf)
    obtain ⟨b, ws, rfl, l, h⟩ := hy.seq e
    rw [strs_map e2] at l
    have ew := den_strs l
    subst ew
    have c' : (ss.map (·.length)).sum + ss.length * t.length ≤ 16777216 := by
      rw [← sizeLine_eq]
      exact c
    refine mt_join pins s σ H x _ v us Q I rx rs ⟨t, b, ss, hx.str.1, rfl, h.elim (fun h => .inl (.inl h.2)) (fun h => .inr h.2), c', ?_⟩
    rw [show Txt.join t ss = Str.join t ss from StrLaws.glued_eq_join t ss]
    exact q.old (.str _ (Nat.le_trans (StrLaws.join_length_le t ss) c))

theorem find_idx {xs : List D} {f : D → Bool} {j : Nat} (h : xs.findIdx? f = some j) : true ∈ xs.map f ∧ (xs.map f).idxOf true = j := by
  obtain ⟨h1, h2⟩ := List.findIdx?_eq_some_iff_findIdx_eq.mp h
  have e : (xs.map f).idxOf true = j := by
    unfold List.idxOf
    rw [List.findIdx_map, ← h2]
    congr 1
    funext x
    simp
  refine ⟨?_, e⟩
  rw [← List.idxOf_lt_length_iff, e, List.length_map]
  exact h1
theorem plain_iff {xs : List D} {d : D} (h : (PyData.plainAll xs && decide (PyData.depthAll xs ≤ 40) && okD d) = true) : PyData.plainAll xs = true ∧ PyData.depthAll xs ≤ 40 ∧ d.plain = true ∧ d.depth ≤ 40 := by
  simp only [Bool.and_eq_true, decide_eq_true_eq] at h
  exact ⟨h.1.1, h.1.2, okD_iff h.2⟩
/-- the items of a sequence beside a value -/
theorem items_at {s : Shared} {its : List Value} {xs : List D} {as bs : List Addr} {u : Value} {d : D} {A : Around} (ra : ReadsAll s.heap its.toArray.toList xs as) (rx : Reads s.heap u d bs) (hp : PyData.plainAll xs = true) (hd : d.plain = true) (hu : A.units + 1 + min (PyData.depthAll xs) d.depth < cLine) :
    SeqAt.ItemsEq A.in1 s its (xs.map fun y => PyData.eqv y d) u true := by
  have n := SeqAt.len_at ra
  rw [List.size_toArray] at n
  refine ⟨by rw [List.length_map]; exact n, fun j h1 h2 => ?_⟩
  have q := SeqAt.items_plain (A := A) (vs := its.toArray) ra rx hp hd hu its[j] (by simp)
  obtain ⟨h3, e⟩ := SeqAt.readOf_at ra hp j (by simpa using h1)
  have e' : SeqAt.readOf s.heap its[j] = xs[j] := by simpa using e
  rw [e'] at q
  have z : decide ((xs.map fun y => PyData.eqv y d)[j] = true) = PyData.eqv xs[j] d := by simp
  rw [z]
  exact q
theorem m_index (hu : X.A.units + 100 < cLine) : MtR X "list.index" (rmD X (primF .index) false) := by
  intro pins s σ H x vs v us Q I rx rs ⟨P, ds, d, hP, hv, hf, q⟩
  match ds, hf with
  | [.list xs, b], hf =>
    obtain ⟨v1, v2, e, hx, hy⟩ := den2 hv
    cases e
    have hf : (if (PyData.plainAll xs && decide (PyData.depthAll xs ≤ 40) && okD b) = true then (xs.findIdx? fun y => PyData.eqv y b).map fun j => PyData.int (j : Nat) else none) = some d := hf
    by_cases c : (PyData.plainAll xs && decide (PyData.depthAll xs ≤ 40) && okD b) = true
    · rw [if_pos c] at hf
      obtain ⟨j, ej, rfl⟩ := Option.map_eq_some_iff.mp hf
      obtain ⟨h1, h2, h3, h4⟩ := plain_iff c
      obtain ⟨m1, m2⟩ := find_idx ej
      obtain ⟨l0, ws, rfl, rd, l⟩ := hx.list
      cases rx
      cases rs with
      | cons r1 rt =>
        cases rt
        obtain ⟨bs, rb⟩ := hy.reads I r1
        obtain ⟨its, rv, pl, hz⟩ := I.list (.inl rd)
        obtain ⟨as, ra⟩ := l.readsA I rv
        refine SeqAt.call_list_index (k := true) pl.isList (items_at ra rb h1 h3 (by omega)) (by rw [List.length_map, ← l.length]; exact hz) m1 ?_
        rw [m2]
        exact ⟨.int _, H, I.tok _, ⟨_, rfl⟩, q.old (.int _)⟩
    · rw [if_neg c] at hf
      cases hf
theorem m_count (hu : X.A.units + 100 < cLine) : MtR X "list.count" (rmD X (primF .count) false) := by
  intro pins s σ H x vs v us Q I rx rs ⟨P, ds, d, hP, hv, hf, q⟩
  match ds, hf with
  | [.list xs, b], hf =>
    obtain ⟨v1, v2, e, hx, hy⟩ := den2 hv
    cases e
    obtain ⟨c, rfl⟩ := ite_some (show (if (PyData.plainAll xs && decide (PyData.depthAll xs ≤ 40) && okD b) = true then some (PyData.int (xs.countP fun y => PyData.eqv y b : Nat)) else none) = some d from hf)
    obtain ⟨h1, h2, h3, h4⟩ := plain_iff c
    obtain ⟨l0, ws, rfl, rd, l⟩ := hx.list
    cases rx
    cases rs with
    | cons r1 rt =>
      cases rt
      obtain ⟨bs, rb⟩ := hy.reads I r1
      obtain ⟨its, rv, pl, hz⟩ := I.list (.inl rd)
      obtain ⟨as, ra⟩ := l.readsA I rv
      exact SeqAt.count_list_data pl.isList ra rb h1 h3 (by omega) ⟨.int _, H, I.tok _, ⟨_, rfl⟩, q.old (.int _)⟩
theorem dic_get {pins : List (Addr × Obj)} {σ : L2.St} {H : Hp} {s : Shared} {Z : Addr → Prop} {a : Addr} {es : Array DictEntry} {kvs : List (D × D)} {A : Around} {E : Value → Shared → Prop} (hu : A.units + 100 < cLine) (I : Inv X pins σ H s) (hd : DicAt H a es kvs) (l : DenE X.K X.w Z H es.toList kvs)
    {k : D} {v : V} {u : Value} (hk : DenT X.K X.w Z H v k) (r : RelV v u) (ok : keyOk kvs k = true) {Q : Value → Shared → Prop} (more : List Value) (hm : more = [] ∨ ∃ y, more = [y]) {dx : V} {dd : D} (rx : RelV dx (more.headD .none)) (hx : Den X.K X.w Z H dx dd)
    (h : ∀ x w' s', Inv X pins σ H s' → RelV x w' → Den X.K X.w Z H x ((dget kvs k).getD dd) → Q w' s') : wpAny (model X.prog X.w) A (call (.builtin "dict.get") (.ref a :: u :: more)) Q E s := by
  rcases keyOk_iff ok with ⟨⟨b, e⟩, hm'⟩ | ⟨tk, hm'⟩
  · obtain ⟨vs, h1, h2⟩ := (dic_view I hd l).2.1 hm'
    have fin : ∀ tk, Q ((valueAt vs b).getD (more.headD .none)) { s with toks := tk } := fun tk => by
      cases q : dget kvs k with
      | none =>
        rw [(ka_get h1 e).2 q]
        exact h dx _ _ (I.tok _) rx (by rw [q]; exact hx)
      | some d =>
        obtain ⟨w', x, e2, rx', dx'⟩ := (ka_get h1 e).1 d q
        rw [e2]
        exact h x _ _ (I.tok _) rx' (by rw [q]; exact dx')
    rcases hm with rfl | ⟨y, rfl⟩
    · exact call_meetsIn F.slot_dict_get h2.typeIs F.entry_dict_get (F.args_dict_get_2 _ _) (meets_dict_get (mixKind X.prog X.w) a (atom_rel e hk r) hd.sys) ⟨_, h2.mapOf, fin _⟩
    · exact call_meetsIn F.slot_dict_get h2.typeIs F.entry_dict_get (F.args_dict_get_3 _ _ _) (meets_dict_get_default (mixKind X.prog X.w) a (atom_rel e hk r) hd.sys y) ⟨_, h2.mapOf, fin _⟩
  · obtain ⟨xs, h1, h2⟩ := (dic_view I hd l).2.2 hm'
    obtain ⟨b, n, e1, e2, e3, e4, _⟩ := tup_rel I tk hk r
    subst e2
    have fin : ∀ tk, Q (((atKey xs n).map (·.2)).getD (more.headD .none)) { s with toks := tk } := fun tk => by
      cases q : dget kvs k with
      | none =>
        rw [(kb_get h1 e3).2 q]
        exact h dx _ _ (I.tok _) rx (by rw [q]; exact hx)
      | some d =>
        obtain ⟨w', x, e5, rx', dx'⟩ := (kb_get h1 e3).1 d q
        rw [e5]
        exact h x _ _ (I.tok _) rx' (by rw [q]; exact dx')
    rcases hm with rfl | ⟨y, rfl⟩
    · exact call_meetsIn F.slot_dict_get h2.typeIs F.entry_dict_get (F.args_dict_get_2 _ _) (meetsH_dict_get (nestedKind X.prog X.w) a b hd.sys) ⟨show A.units + 1 + 8 < cLine by omega, n, xs, e4, h2, fin _⟩
    · exact call_meetsIn F.slot_dict_get h2.typeIs F.entry_dict_get (F.args_dict_get_3 _ _ _) (meetsH_dict_get_default (nestedKind X.prog X.w) a b hd.sys y) ⟨show A.units + 1 + 8 < cLine by omega, n, xs, e4, h2, fin _⟩
theorem m_get1 (hu : X.A.units + 100 < cLine) : MtR X "dict.get" (rmD X (primF .get1) false) := by
  intro pins s σ H x vs v us Q I rx rs ⟨P, ds, d, hP, hv, hf, q⟩
  match ds, hf with
  | [.dict kvs, b], hf =>
    obtain ⟨v1, v2, e, hx, hy⟩ := den2 hv
    cases e
    obtain ⟨c, rfl⟩ := ite_some (show (if keyOk kvs b = true then some ((dget kvs b).getD .none) else none) = some d from hf)
    obtain ⟨a, es, rfl, hd, l⟩ := hx.dict
    cases rx
    cases rs with
    | cons r1 rt =>
      cases rt
      exact dic_get hu I hd l hy r1 c [] (.inl rfl) (dx := .non) rfl .non fun z w' s' I' rz dz => ⟨z, H, I', rz, q.old dz⟩
theorem m_get2 (hu : X.A.units + 100 < cLine) : MtR X "dict.get" (rmD X (fun ds => primF .get2 ds) false) := by
  intro pins s σ H x vs v us Q I rx rs ⟨P, ds, d, hP, hv, hf, q⟩
  match ds, hf with
  | [.dict kvs, b, c0], hf =>
    obtain ⟨v1, v2, v3, e, hx, hy, hz⟩ := den3 hv
    cases e
    have hf : (if (keyOk kvs b && !isCont c0) = true then some ((dget kvs b).getD c0) else none) = some d := hf
    obtain ⟨c, rfl⟩ := ite_some hf
    simp only [Bool.and_eq_true, Bool.not_eq_true'] at c
    obtain ⟨a, es, rfl, hd, l⟩ := hx.dict
    cases rx
    cases rs with
    | cons r1 rt =>
      cases rt with
      | cons r2 rt =>
        cases rt
        exact dic_get hu I hd l hy r1 c.1 [_] (.inr ⟨_, rfl⟩) r2 (hz.flat c.2) fun z w' s' I' rz dz => ⟨z, H, I', rz, q.old dz⟩
end
end DV
end

section
/-! readings by the plain machine -/
namespace DV
open PySem PySem.Spec PyProof.Rows L2

/-- one more is kept apart -/
def Zp (Z : Addr → Prop) (a : Addr) : Addr → Prop := fun x => Z x ∨ x = a
/-- an expression's end: a new container is nobody's yet -/
def Out (K : PySem.W.Frag) (w : World) (Z : Addr → Prop) (ρ' : Ro) (σ : L2.St) (H H' : Hp) (fr : Bool) (v : V) (d : D) : Prop :=
  if (fr && isCont d) = true then ∃ a, v = .ref a ∧ H a = none ∧ Rel K w (Zp Z a) ρ' σ H' ∧ Cont K w (PP (Zp Z a) ρ' σ) H' a d else Rel K w Z ρ' σ H' ∧ Den K w (PP Z ρ' σ) H' v d
section
variable {K : PySem.W.Frag} {w : World} {Z : Addr → Prop} {ρ ρ' : Ro} {σ : L2.St} {H H' H1 : Hp} {fr : Bool} {v : V} {d : D} {C : Call}
theorem Out.weak (hz : ∀ a, Z a → H a ≠ none) (o : Out K w Z ρ' σ H H' fr v d) : Rel K w Z ρ' σ H' ∧ Den K w (PP Z ρ' σ) H' v d := by
  unfold Out at o
  by_cases c : (fr && isCont d) = true
  · rw [if_pos c] at o
    obtain ⟨a, rfl, n, r, k⟩ := o
    have sub : ∀ x, PP Z ρ' σ x → PP (Zp Z a) ρ' σ x := fun x q => q.imp .inl id
    refine ⟨r.less fun x q => .inl q, (k.go (Go.sub sub) rfl).den fun q => ?_⟩
    rcases q with q | ⟨i, e, q, q'⟩
    · exact hz a q n
    · obtain ⟨b, e1, n1, _⟩ := r.ow i e q
      rw [q'] at e1
      cases e1
      exact n1 (.inr rfl)
  · rw [if_neg c] at o
    exact o
theorem Out.flat (c : (fr && isCont d) = false) (r : Rel K w Z ρ' σ H') (h : Den K w (PP Z ρ' σ) H' v d) : Out K w Z ρ' σ H H' fr v d := by
  unfold Out
  rw [if_neg (by rw [c]; exact Bool.false_ne_true)]
  exact ⟨r, h⟩
/-- from an operation without effect -/
theorem aft_of {Q : VK} (r : Rel K w Z ρ' σ H1) (g : Go (Ow ρ σ) H (Ow ρ' σ) H1) (hQ : ∀ v H', Go (Ow ρ σ) H (Ow ρ' σ) H' → Out K w Z ρ' σ H H' fr v d → Q v H') : Aft K w (PP Z ρ' σ) H1 fr d Q := by
  intro v H' s h
  have g' : Go (Ow ρ σ) H (Ow ρ' σ) H' := g.trans (Go.same s fun _ q => .inl q)
  refine hQ v H' g' ?_
  unfold Out
  by_cases c : (fr && isCont d) = true
  · rw [if_pos c] at h ⊢
    obtain ⟨a, rfl, n, k⟩ := h
    have n0 : H a = none := by
      cases e : H a with
      | none => rfl
      | some o => exact absurd n (g.dom a (by rw [e]; simp))
    refine ⟨a, rfl, n0, r.more s (fun x q => q.elim .inl fun e => .inr (by rw [e]; exact n)) fun x q => ?_, ?_⟩
    · rcases q with q | q
      · exact (r.same s).z x q
      · rw [q]; exact k.there
    · refine k.go (Go.sub fun x q => ?_) rfl
      rcases q with (q | q) | q
      · exact .inl (.inl q)
      · exact .inr q
      · exact .inl (.inr q)
  · rw [if_neg c] at h ⊢
    exact ⟨r.same s, h⟩
end

/-- the reading of an expression -/
def tE (K : PySem.W.Frag) (w : World) (C : Call) (e : IE) : TE := fun σ H Q => ∃ Z ρ d ρ', Rel K w Z ρ σ H ∧ evE C e ρ = some (d, ρ') ∧ ∀ v H', Go (Ow ρ σ) H (Ow ρ' σ) H' → Out K w Z ρ' σ H H' (freshE e) v d → Q v H'
/-- .. of an operand -/
def oR (K : PySem.W.Frag) (w : World) (C : Call) : IE → TE
  | .own i => tVar i
  | .io i => tVar i
  | e => tE K w C e
def opsR (K : PySem.W.Frag) (w : World) (C : Call) : IEs → TA
  | .nil => tNil
  | .cons e es => tCons (oR K w C e) (opsR K w C es)
/-- .. of a test -/
def tT (K : PySem.W.Frag) (w : World) (C : Call) (e : IE) : TT := fun σ H Q => ∃ Z ρ d ρ' k, Rel K w Z ρ σ H ∧ evE C e ρ = some (d, ρ') ∧ truthF d = some k ∧ ∀ H', Go (Ow ρ σ) H (Ow ρ' σ) H' → Rel K w Z ρ' σ H' → Q k H'

/-- what the operands are, when all are there -/
inductive OpsD (K : PySem.W.Frag) (w : World) (ρ : Ro) (σ : L2.St) (P : Addr → Prop) (H : Hp) : IEs → List V → List D → Prop
  | nil : OpsD K w ρ σ P H .nil [] []
  | own {i : Nat} {v : V} {d : D} {es : IEs} {vs : List V} {ds : List D} : σ[i]? = some (some v) → getAny ρ i = some d → DenT K w P H v d → OpsD K w ρ σ P H es vs ds → OpsD K w ρ σ P H (.cons (.own i) es) (v :: vs) (d :: ds)
  | io {i : Nat} {a : Addr} {d : D} {es : IEs} {vs : List V} {ds : List D} : σ[i]? = some (some (V.ref a)) → ρ[i]? = some (Sl.ow d) → P a → Cont K w P H a d → OpsD K w ρ σ P H es vs ds → OpsD K w ρ σ P H (.cons (.io i) es) (.ref a :: vs) (d :: ds)
  | val {e : IE} {v : V} {d : D} {es : IEs} {vs : List V} {ds : List D} : (∀ i, e ≠ .own i) → (∀ i, e ≠ .io i) → Den K w P H v d → OpsD K w ρ σ P H es vs ds → OpsD K w ρ σ P H (.cons e es) (v :: vs) (d :: ds)
section
variable {K : PySem.W.Frag} {w : World} {Z : Addr → Prop} {σ : L2.St} {C : Call}
theorem OpsD.dens {ρ : Ro} {P : Addr → Prop} {H : Hp} {es : IEs} {vs : List V} {ds : List D} (h : OpsD K w ρ σ P H es vs ds) : Paired (DenT K w P H) vs ds := by
  induction h with
  | nil => exact .nil
  | own _ _ h _ ih => exact .cons h ih
  | io _ _ p c _ ih => exact .cons (.inr ⟨_, rfl, p, c⟩) ih
  | val _ _ h _ ih => exact .cons (.inl h) ih
theorem evOps_cons {e : IE} {es : IEs} {ρ : Ro} (h1 : ∀ i, e ≠ .own i) (h2 : ∀ i, e ≠ .io i) : evOps C (.cons e es) ρ = (evE C e ρ).bind fun p => (evOps C es p.2).map fun q => (p.1 :: q.1, q.2) := by
  cases e with
  | own i => exact absurd rfl (h1 i)
  | io i => exact absurd rfl (h2 i)
  | _ => rfl
theorem oR_val {e : IE} (h1 : ∀ i, e ≠ .own i) (h2 : ∀ i, e ≠ .io i) : oR K w C e = tE K w C e := by
  cases e with
  | own i => exact absurd rfl (h1 i)
  | io i => exact absurd rfl (h2 i)
  | _ => rfl
theorem getAny_ow {ρ : Ro} {i : Nat} {d : D} (h : getOw ρ i = some d) : getAny ρ i = some d := by
  unfold getAny
  rw [getOw_some h]
  rfl
theorem ie_cases (e : IE) : (∃ i, e = .own i) ∨ (∃ i, e = .io i) ∨ ((∀ i, e ≠ .own i) ∧ ∀ i, e ≠ .io i) := by
  cases e with
  | own i => exact .inl ⟨i, rfl⟩
  | io i => exact .inr (.inl ⟨i, rfl⟩)
  | _ => exact .inr (.inr ⟨fun i h => (nomatch h), fun i h => (nomatch h)⟩)
/-- OPERANDS from the left -/
theorem ops_ok : ∀ (es : IEs) {ρ ρ' : Ro} {H : Hp} {ds : List D} {Q : List V → Hp → Prop}, Rel K w Z ρ σ H → evOps C es ρ = some (ds, ρ') →
    (∀ vs H', Go (Ow ρ σ) H (Ow ρ' σ) H' → Rel K w Z ρ' σ H' → OpsD K w ρ' σ (PP Z ρ' σ) H' es vs ds → Q vs H') → opsR K w C es σ H Q
  | .nil, ρ, ρ', H, ds, Q, r, h, hQ => by
    cases (show some (([] : List D), ρ) = some (ds, ρ') from h)
    exact hQ [] H Go.refl r .nil
  | .cons e es, ρ, ρ', H, ds, Q, r, h, hQ => by
    rcases ie_cases e with ⟨i, rfl⟩ | ⟨i, rfl⟩ | ⟨h1, h2⟩
    · have h : ((getAny ρ i).bind fun d0 => (evOps C es ρ).bind fun p => (getAny p.2 i).bind fun d => if kindD d0 = kindD d then some (d :: p.1, p.2) else none) = some (ds, ρ') := h
      obtain ⟨d0, e0, h⟩ := Option.bind_eq_some_iff.mp h
      obtain ⟨⟨es', ρ1⟩, e1, h⟩ := Option.bind_eq_some_iff.mp h
      obtain ⟨d, e2, h⟩ := Option.bind_eq_some_iff.mp h
      obtain ⟨_, h⟩ := ite_some h
      cases h
      obtain ⟨v, ev, _⟩ := r.any e0
      refine ⟨v, ev, ops_ok es r e1 fun vs H' g r' o => hQ (v :: vs) H' g r' ?_⟩
      obtain ⟨v', ev', dv⟩ := r'.any e2
      rw [ev] at ev'
      cases ev'
      exact .own ev e2 dv o
    · have h : ((getOw ρ i).bind fun _ => (evOps C es ρ).bind fun p => (getOw p.2 i).map fun d => (d :: p.1, p.2)) = some (ds, ρ') := h
      obtain ⟨d0, e0, h⟩ := Option.bind_eq_some_iff.mp h
      obtain ⟨⟨es', ρ1⟩, e1, h⟩ := Option.bind_eq_some_iff.mp h
      obtain ⟨d, e2, h⟩ := Option.map_eq_some_iff.mp h
      cases h
      obtain ⟨v, ev, _⟩ := r.any (getAny_ow e0)
      refine ⟨v, ev, ops_ok es r e1 fun vs H' g r' o => hQ (v :: vs) H' g r' ?_⟩
      obtain ⟨a, ea, n, c⟩ := r'.ow i d (getOw_some e2)
      rw [ev] at ea
      cases ea
      exact .io ev (getOw_some e2) (.inr ⟨i, d, getOw_some e2, ev⟩) c o
    · rw [evOps_cons h1 h2] at h
      obtain ⟨⟨d, ρ1⟩, e1, h⟩ := Option.bind_eq_some_iff.mp h
      obtain ⟨⟨ds1, ρ2⟩, e2, h⟩ := Option.map_eq_some_iff.mp h
      cases h
      show oR K w C e σ H fun x H1 => opsR K w C es σ H1 fun xs H2 => Q (x :: xs) H2
      rw [oR_val h1 h2]
      refine ⟨Z, ρ, d, ρ1, r, e1, fun v H1 g1 o1 => ?_⟩
      obtain ⟨r1, dv⟩ := o1.weak r.z
      refine ops_ok es r1 e2 fun vs H' g r' o => hQ (v :: vs) H' (g1.trans g) r' (.val h1 h2 (dv.go (g.pp fun _ q => .inl q)) o)
/-- two of them -/
theorem ops2_ok {a b : IE} {ρ ρ' : Ro} {H : Hp} {ds : List D} {R : V → V → Hp → Prop} (r : Rel K w Z ρ σ H) (h : evOps C (.cons a (.cons b .nil)) ρ = some (ds, ρ'))
    (hR : ∀ x y H' dx dy, ds = [dx, dy] → Go (Ow ρ σ) H (Ow ρ' σ) H' → Rel K w Z ρ' σ H' → DenT K w (PP Z ρ' σ) H' x dx → DenT K w (PP Z ρ' σ) H' y dy → R x y H') : oR K w C a σ H fun x H1 => oR K w C b σ H1 fun y H2 => R x y H2 := by
  have q := ops_ok (Q := fun vs H' => ∀ x y, vs = [x, y] → R x y H') _ r h fun vs H' g r' o x y e => by
    subst e
    have p := o.dens
    cases p with
    | cons h1 t =>
      cases t with
      | cons h2 t => cases t; exact hR x y H' _ _ rfl g r' h1 h2
  have mono : ∀ (e : IE) (σ : L2.St) (H : Hp) (Q Q' : VK), (∀ v H', Q v H' → Q' v H') → oR K w C e σ H Q → oR K w C e σ H Q' := by
    intro e σ H Q Q' hq h
    rcases ie_cases e with ⟨i, rfl⟩ | ⟨i, rfl⟩ | ⟨h1, h2⟩
    · obtain ⟨v, e, q⟩ := h; exact ⟨v, e, hq _ _ q⟩
    · obtain ⟨v, e, q⟩ := h; exact ⟨v, e, hq _ _ q⟩
    · rw [oR_val h1 h2] at h ⊢
      obtain ⟨Z, ρ, d, ρ', h3, h4, h5⟩ := h
      exact ⟨Z, ρ, d, ρ', h3, h4, fun v H' g o => hq _ _ (h5 v H' g o)⟩
  exact mono a σ H _ _ (fun x H1 q => mono b σ H1 _ _ (fun y H2 q => q x y rfl) q) q
theorem ops1_ok {a : IE} {ρ ρ' : Ro} {H : Hp} {ds : List D} {R : VK} (r : Rel K w Z ρ σ H) (h : evOps C (.cons a .nil) ρ = some (ds, ρ'))
    (hR : ∀ x H' dx, ds = [dx] → Go (Ow ρ σ) H (Ow ρ' σ) H' → Rel K w Z ρ' σ H' → DenT K w (PP Z ρ' σ) H' x dx → R x H') : oR K w C a σ H R := by
  have q := ops_ok (Q := fun vs H' => ∀ x, vs = [x] → R x H') _ r h fun vs H' g r' o x e => by
    subst e
    have p := o.dens
    cases p with
    | cons h1 t => cases t; exact hR x H' _ rfl g r' h1
  have mono : ∀ (e : IE) (σ : L2.St) (H : Hp) (Q Q' : VK), (∀ v H', Q v H' → Q' v H') → oR K w C e σ H Q → oR K w C e σ H Q' := by
    intro e σ H Q Q' hq h
    rcases ie_cases e with ⟨i, rfl⟩ | ⟨i, rfl⟩ | ⟨h1, h2⟩
    · obtain ⟨v, e, q⟩ := h; exact ⟨v, e, hq _ _ q⟩
    · obtain ⟨v, e, q⟩ := h; exact ⟨v, e, hq _ _ q⟩
    · rw [oR_val h1 h2] at h ⊢
      obtain ⟨Z, ρ, d, ρ', h3, h4, h5⟩ := h
      exact ⟨Z, ρ, d, ρ', h3, h4, fun v H' g o => hq _ _ (h5 v H' g o)⟩
  exact mono a σ H _ _ (fun x H1 q => q x rfl) q
end
theorem _root_.L2.PE.weaken {X : Cx} {e : Expr} {t t' : TE} (h : PE X e t) (m : ∀ σ H Q, t' σ H Q → t σ H Q) : PE X e t' := ⟨fun pins s σ H Q I q => h.run pins s σ H Q I (m σ H Q q)⟩
theorem _root_.L2.PT.weaken {X : Cx} {e : Expr} {t t' : TT} (h : PT X e t) (m : ∀ σ H Q, t' σ H Q → t σ H Q) : PT X e t' := ⟨fun pins s σ H Q I q => h.run pins s σ H Q I (m σ H Q q)⟩
theorem _root_.L2.PS.weaken {X : Cx} {e : Stmt} {t t' : TS} (h : PS X e t) (m : ∀ D σ H, t' D σ H → t D σ H) : PS X e t' := ⟨fun pins s σ H D I q => h.run pins s σ H D I (m D σ H q)⟩

/-! ### simple forms -/
section
variable {X : Cx} {C : Call}
theorem prim_some {p : Pr} {es : IEs} {ρ ρ' : Ro} {d : D} (h : evE C (.prim p es) ρ = some (d, ρ')) : ∃ ds, evOps C es ρ = some (ds, ρ') ∧ primF p ds = some d := by
  obtain ⟨⟨ds, ρ1⟩, e1, h⟩ := Option.bind_eq_some_iff.mp (show ((evOps C es ρ).bind fun q => (primF p q.1).map fun d => (d, q.2)) = some (d, ρ') from h)
  obtain ⟨d', e2, h⟩ := Option.map_eq_some_iff.mp h
  cases h
  exact ⟨ds, e1, e2⟩
theorem s_var {i : Nat} {x : Str} {pos : Pos} (hN : X.N[i]? = some x) (hv : Vis X.env.scope x) (hd : (x == ("__debug__" : Str)) = false) (hcd : (x == ("__classdict__" : Str)) = false) : PE X (.Name x pos) (tE X.K X.w C (.var i)) := by
  refine (pe_var hN hv hd hcd).weaken fun σ H Q h => ?_
  obtain ⟨Z, ρ, d, ρ', r, e, hQ⟩ := h
  obtain ⟨d', e1, h⟩ := Option.map_eq_some_iff.mp (show (getSh ρ i).map (fun d => (d, ρ)) = some (d, ρ') from e)
  cases h
  obtain ⟨v, ev, dv⟩ := r.sh i d (getSh_some e1)
  exact ⟨v, ev, hQ v H Go.refl (.flat rfl r dv)⟩
theorem ow_esc {ρ : Ro} {σ : L2.St} {i : Nat} {d : D} {a : Addr} (h : Ow (ρ.set i (Sl.sh d)) σ a) : Ow ρ σ a := by
  obtain ⟨j, e, h1, h2⟩ := h
  by_cases hj : j = i
  · subst hj
    by_cases l : j < ρ.length
    · rw [List.getElem?_set_self l] at h1; cases h1
    · rw [List.getElem?_eq_none (by simpa using l)] at h1; cases h1
  · rw [List.getElem?_set_ne (Ne.symm hj)] at h1
    exact ⟨j, e, h1, h2⟩
theorem s_esc {i : Nat} {x : Str} {pos : Pos} (hN : X.N[i]? = some x) (hv : Vis X.env.scope x) (hd : (x == ("__debug__" : Str)) = false) (hcd : (x == ("__classdict__" : Str)) = false) : PE X (.Name x pos) (tE X.K X.w C (.esc i)) := by
  refine (pe_var hN hv hd hcd).weaken fun σ H Q h => ?_
  obtain ⟨Z, ρ, d, ρ', r, e, hQ⟩ := h
  obtain ⟨d', e1, h⟩ := Option.map_eq_some_iff.mp (show (getAny ρ i).map (fun d => (d, ρ.set i (.sh d))) = some (d, ρ') from e)
  cases h
  obtain ⟨v, ev, r', dv, _⟩ := r.escape e1
  exact ⟨v, ev, hQ v H (Go.sub fun a q => ow_esc q) (.flat rfl r' dv)⟩
theorem s_bin {a b : IE} {x y : Expr} {o : Operator} {pos : Pos} (hx : PE X x (oR X.K X.w C a)) (hy : PE X y (oR X.K X.w C b)) : PE X (.BinOp x o y pos) (tE X.K X.w C (.prim (.bin o) (.cons a (.cons b .nil)))) := by
  refine (pe_op (op_binD o) hx hy).weaken fun σ H Q h => ?_
  obtain ⟨Z, ρ, d, ρ', r, e, hQ⟩ := h
  obtain ⟨ds, e1, e2⟩ := prim_some e
  exact ops2_ok r e1 fun x y H' dx dy ed g r' h1 h2 => ⟨PP Z ρ' σ, dx, dy, d, fun a q => r'.pp q, h1, h2, by subst ed; exact e2, aft_of r' g hQ⟩
theorem s_cmp (hu : X.A.units + 100 < cLine) {a b : IE} {x y : Expr} {o : CmpOp} {pos : Pos} (hx : PE X x (oR X.K X.w C a)) (hy : PE X y (oR X.K X.w C b)) (hm : behindInMarks o y = false) : PE X (.Compare x [o] [y] pos) (tE X.K X.w C (.prim (.cmp o) (.cons a (.cons b .nil)))) := by
  refine (pe_cmpR (op_cmpD hu o) hx hy hm).weaken fun σ H Q h => ?_
  obtain ⟨Z, ρ, d, ρ', r, e, hQ⟩ := h
  obtain ⟨ds, e1, e2⟩ := prim_some e
  refine ops2_ok r e1 fun x y H' dx dy ed g r' h1 h2 => ⟨PP Z ρ' σ, dx, dy, d, fun a q => r'.pp q, h1, h2, by subst ed; exact e2, ?_⟩
  have f : isCont d = false := by
    subst ed
    obtain ⟨b, _, rfl⟩ := bool_of (show (cmpB o dx dy).map PyData.bool = some d from e2)
    rfl
  refine aft_of r' g fun v H' g' o => hQ v H' g' ?_
  unfold Out at o ⊢
  rw [f, Bool.and_false] at o ⊢
  exact o
theorem s_neg {a : IE} {x : Expr} {pos : Pos} (hx : PE X x (oR X.K X.w C a)) : PE X (.UnaryOp .USub x pos) (tE X.K X.w C (.prim .neg (.cons a .nil))) := by
  refine (pe_un un_neg hx).weaken fun σ H Q h => ?_
  obtain ⟨Z, ρ, d, ρ', r, e, hQ⟩ := h
  obtain ⟨ds, e1, e2⟩ := prim_some e
  refine ops1_ok r e1 fun x H' dx ed g r' h1 => ?_
  subst ed
  cases dx with
  | int i =>
    cases (show some (PyData.int (-i)) = some d from e2)
    exact ⟨i, h1.int, hQ _ H' g (.flat rfl r' (.int _))⟩
  | _ => cases (show Option.none = some d from e2)
theorem s_ix (hu : X.A.units + 100 < cLine) {a b : IE} {x y : Expr} {pos : Pos} (hx : PE X x (oR X.K X.w C a)) (hy : PE X y (oR X.K X.w C b)) (hs : PlainIx y) : PE X (.Subscript x y pos) (tE X.K X.w C (.prim .ix (.cons a (.cons b .nil)))) := by
  refine (pe_ix (ix_allD hu) hx hy hs).weaken fun σ H Q h => ?_
  obtain ⟨Z, ρ, d, ρ', r, e, hQ⟩ := h
  obtain ⟨ds, e1, e2⟩ := prim_some e
  exact ops2_ok r e1 fun x y H' dx dy ed g r' h1 h2 => ⟨PP Z ρ' σ, dx, dy, d, fun a q => r'.pp q, h1, h2, by subst ed; exact e2, aft_of r' g hQ⟩
end
end DV
end

section
/-! forms of the text: what a check of them needs -/
namespace DV
open PySem PySem.Spec PyProof.Rows L2

def starB : Expr → Bool
  | .Starred .. => true
  | _ => false
def nostar (xs : List Expr) : Bool := xs.all fun x => !starB x
theorem star_cons {e : Expr} {es : List Expr} {env : Env} (h : starB e = false) : starEach (e :: es) env = (false, eval e env) :: starEach es env := by
  cases e <;> first | rfl | cases h
theorem nostar_cons {e : Expr} {es : List Expr} (h : nostar (e :: es) = true) : starB e = false ∧ nostar es = true := by
  unfold nostar at h ⊢
  rw [List.all_cons, Bool.and_eq_true] at h
  exact ⟨by simpa using h.1, h.2⟩
theorem no_any {pos : Pos} {env : Env} : ∀ {es : List Expr}, nostar es = true → (backTo pos (starEach es env)).any (·.1) = false
  | [], _ => rfl
  | e :: es, h => by
    obtain ⟨h1, h2⟩ := nostar_cons h
    rw [star_cons h1]
    show (false || (backTo pos (starEach es env)).any (·.1)) = false
    rw [no_any h2]
    rfl
theorem no_all {pos : Pos} {env : Env} : ∀ {es : List Expr}, nostar es = true → (backTo pos (starEach es env)).all (fun x => !x.1) = true
  | [], _ => rfl
  | e :: es, h => by
    obtain ⟨h1, h2⟩ := nostar_cons h
    rw [star_cons h1]
    show (true && (backTo pos (starEach es env)).all (fun x => !x.1)) = true
    rw [no_all h2]
    rfl
def plainT : Expr → Bool
  | .UnaryOp .Not _ _ => false
  | .BoolOp .. => false
  | .IfExp .. => false
  | .Compare .. => false
  | _ => true
theorem plainT_eq {e : Expr} (h : plainT e = true) {env : Env} : ∀ whole, isTrue e env whole = (do let v ← whole; standAt e.pos; holding [v] (truthy v)) := by
  intro whole
  cases e with
  | UnaryOp o x p => cases o <;> first | rfl | cases h
  | BoolOp _ _ _ => cases h
  | IfExp _ _ _ _ => cases h
  | Compare _ _ _ _ => cases h
  | _ => rfl
def noSuper : Expr → Bool
  | .Call (.Name _ _) [] [] _ => false
  | _ => true
theorem noSuper_eq {o : Expr} (h : noSuper o = true) {name : Str} {env : Env} {whole : Sem Value} : attributeBase o name env whole = whole := by
  unfold attributeBase
  split
  · cases h
  · rfl
def isSlice : Expr → Bool
  | .Slice .. => true
  | _ => false
theorem plainIx_of {b : Expr} (h : isSlice b = false) : PlainIx b := by
  intro o i
  cases b <;> first | rfl | cases h
def isSetD : Expr → Bool
  | .Set .. => true
  | _ => false
theorem folded_of {e : Expr} (h : isSetD e = false) {env : Env} : ∀ x, foldedSetIterable e env x = pure x := by
  intro x
  cases e <;> first | rfl | cases h
theorem mark_of {o : CmpOp} {b : Expr} (h : isSetD b = false) : behindInMarks o b = false := by
  cases b <;> first | rfl | cases h

structure Good (X : Cx) (C : Call) (e : IE) (x : Expr) : Prop where
  pe : PE X x (tE X.K X.w C e)
  pt : PT X x (tT X.K X.w C e)
section
variable {X : Cx} {C : Call}
theorem tru_of {P : Addr → Prop} {H : Hp} {v : V} {d : D} {k : Bool} {K : PySem.W.Frag} {w : World} (h : DenT K w P H v d) (e : truthF d = some k) : TruV K v H k := by
  cases d with
  | none =>
    cases (show some false = some k from e)
    rw [h.none]
    exact Eq.refl _
  | bool b =>
    cases (show some b = some k from e)
    rw [h.bool]
    exact Eq.refl _
  | int i =>
    cases (show some (i != 0) = some k from e)
    rw [h.int]
    exact Eq.refl _
  | str x =>
    cases (show some (x.length != 0) = some k from e)
    obtain ⟨e1, z⟩ := h.str
    rw [e1]
    refine ⟨z, ?_⟩
    by_cases q : x.length = 0
    · rw [q]; rfl
    · have q' : (x.length : Int) ≠ 0 := by omega
      rw [bne_iff_ne.mpr q, bne_iff_ne.mpr q']
  | list ds =>
    cases (show some (!ds.isEmpty) = some k from e)
    obtain ⟨a, xs, e1, r, l⟩ := h.list
    subst e1
    refine .inl ⟨xs, .inl r, ?_⟩
    have hl := l.length
    cases xs <;> cases ds <;> first | rfl | cases hl
  | tuple ds =>
    cases (show some (!ds.isEmpty) = some k from e)
    obtain ⟨a, xs, e1, r, l⟩ := h.tuple
    subst e1
    refine .inr (.inl ⟨xs, r, ?_⟩)
    have hl := l.length
    cases xs <;> cases ds <;> first | rfl | cases hl
  | dict kvs => cases (show Option.none = some k from e)
theorem tT_tE {e : IE} {σ : L2.St} {H : Hp} {Q : Bool → Hp → Prop} (h : tT X.K X.w C e σ H Q) : tE X.K X.w C e σ H fun x H' => ∃ k, TruV X.K x H' k ∧ Q k H' := by
  obtain ⟨Z, ρ, d, ρ', k, r, ev, tr, hQ⟩ := h
  refine ⟨Z, ρ, d, ρ', r, ev, fun v H' g o => ?_⟩
  obtain ⟨r', dv⟩ := o.weak r.z
  exact ⟨k, tru_of (.inl dv) tr, hQ H' g r'⟩
theorem tT_bool {e : IE} {σ : L2.St} {H : Hp} {Q : Bool → Hp → Prop} (hb : ∀ ρ d ρ', evE C e ρ = some (d, ρ') → ∃ b, d = .bool b) (h : tT X.K X.w C e σ H Q) : tE X.K X.w C e σ H fun x H' => ∃ k, x = .bl k ∧ Q k H' := by
  obtain ⟨Z, ρ, d, ρ', k, r, ev, tr, hQ⟩ := h
  refine ⟨Z, ρ, d, ρ', r, ev, fun v H' g o => ?_⟩
  obtain ⟨r', dv⟩ := o.weak r.z
  obtain ⟨b, rfl⟩ := hb _ _ _ ev
  cases (show some b = some k from tr)
  cases dv
  exact ⟨_, rfl, hQ H' g r'⟩
theorem Good.plain {e : IE} {x : Expr} (h : PE X x (tE X.K X.w C e)) (hp : plainT x = true) : Good X C e x :=
  ⟨h, (pt_truth h (plainT_eq hp)).weaken fun σ H Q q => tT_tE q⟩

/-- operands -/
def OpsP (X : Cx) (C : Call) : IEs → List Expr → Prop
  | .nil, [] => True
  | .cons e es, x :: xs => PE X x (oR X.K X.w C e) ∧ OpsP X C es xs
  | _, _ => False
theorem OpsP.pa : ∀ {es : IEs} {xs : List Expr}, OpsP X C es xs → nostar xs = true → PA X xs (opsR X.K X.w C es)
  | .nil, [], _, _ => pa_nil
  | .cons e es, x :: xs, h, n => pa_cons h.1 (OpsP.pa h.2 (nostar_cons n).2) (star_cons (nostar_cons n).1)
  | .nil, _ :: _, h, _ => h.elim
  | .cons _ _, [], h, _ => h.elim
theorem OpsP.one {es : IEs} {x : Expr} (h : OpsP X C es [x]) : ∃ e, es = .cons e .nil ∧ PE X x (oR X.K X.w C e) := by
  cases es with
  | nil => exact h.elim
  | cons e es =>
    cases es with
    | nil => exact ⟨e, rfl, h.1⟩
    | cons _ _ => exact h.2.elim
theorem OpsP.two {es : IEs} {x y : Expr} (h : OpsP X C es [x, y]) : ∃ e f, es = .cons e (.cons f .nil) ∧ PE X x (oR X.K X.w C e) ∧ PE X y (oR X.K X.w C f) := by
  cases es with
  | nil => exact h.elim
  | cons e es =>
    obtain ⟨f, rfl, q⟩ := OpsP.one (es := es) h.2
    exact ⟨e, f, rfl, h.1, q⟩
theorem OpsP.three {es : IEs} {x y z : Expr} (h : OpsP X C es [x, y, z]) : ∃ e f g, es = .cons e (.cons f (.cons g .nil)) ∧ PE X x (oR X.K X.w C e) ∧ PE X y (oR X.K X.w C f) ∧ PE X z (oR X.K X.w C g) := by
  cases es with
  | nil => exact h.elim
  | cons e es =>
    obtain ⟨f, g, rfl, q⟩ := OpsP.two (es := es) h.2
    exact ⟨e, f, g, rfl, h.1, q⟩
theorem OpsP.four {es : IEs} {x y z u : Expr} (h : OpsP X C es [x, y, z, u]) : ∃ e f g i, es = .cons e (.cons f (.cons g (.cons i .nil))) ∧ PE X x (oR X.K X.w C e) ∧ PE X y (oR X.K X.w C f) ∧ PE X z (oR X.K X.w C g) ∧ PE X u (oR X.K X.w C i) := by
  cases es with
  | nil => exact h.elim
  | cons e es =>
    obtain ⟨f, g, i, rfl, q⟩ := OpsP.three (es := es) h.2
    exact ⟨e, f, g, i, rfl, h.1, q⟩

/-- a primitive's operands, then the primitive -/
theorem prim_ops {p : Pr} {es : IEs} {σ : L2.St} {H : Hp} {Q : VK} (h : tE X.K X.w C (.prim p es) σ H Q) : opsR X.K X.w C es σ H fun vs H1 => rsD X (primF p) (frP p) vs H1 Q := by
  obtain ⟨Z, ρ, d, ρ', r, e, hQ⟩ := h
  obtain ⟨ds, e1, e2⟩ := prim_some e
  exact ops_ok es r e1 fun vs H' g r' o => ⟨PP Z ρ' σ, ds, d, fun a q => r'.pp q, o.dens, e2, aft_of r' g hQ⟩
theorem rsD.imp {f g : List D → Option D} {fr fr' : Bool} {vs : List V} {H : Hp} {Q : VK} (hf : ∀ ds d, g ds = some d → f ds = some d) (hc : ∀ ds d, g ds = some d → fr = fr' ∨ isCont d = false) (h : rsD X g fr' vs H Q) : rsD X f fr vs H Q := by
  obtain ⟨P, ds, d, hP, hd, e, a⟩ := h
  refine ⟨P, ds, d, hP, hd, hf _ _ e, ?_⟩
  rcases hc _ _ e with rfl | c
  · exact a
  · intro v H' s q
    refine a v H' s ?_
    rw [c, Bool.and_false] at q ⊢
    exact q
theorem callR_imp {id : Value} {r r' : List V → Hp → VK → Prop} (h : CallR X id r) (hi : ∀ vs H Q, r' vs H Q → r vs H Q) : CallR X id r' := fun pins s σ H vs us Q I rv q => h pins s σ H vs us Q I rv (hi _ _ _ q)
theorem callR_f1 {id : Value} {f : D → Option D} {p : Pr} (h : CallR X id (rsD X (f1 f) (frP p))) (hp : ∀ ds d, primF p ds = some d → f1 f ds = some d) : CallR X id (rsD X (primF p) (frP p)) :=
  callR_imp h fun vs H Q q => q.imp hp fun _ _ _ => .inl rfl
end
end DV
end

section
/-! primitives and their texts -/
namespace DV
open PySem PySem.Spec PyProof.Rows L2

def glB (sc : Scope) (x : Str) : Bool := (match sc.names.lookup x with | some .globalImplicit => true | _ => false) && !(x == ("__debug__" : Str))
def visB (sc : Scope) (x : Str) : Bool := (match sc.names.lookup x with | some .local => true | some .cell => true | some .free => true | _ => false) && !(x == ("__debug__" : Str)) && !(x == ("__classdict__" : Str))
theorem glB_iff {X : Cx} {sc : Scope} {x : Str} (e : X.env.scope = sc) (h : glB sc x = true) : Gl X x ∧ (x == ("__debug__" : Str)) = false := by
  unfold glB at h
  rw [Bool.and_eq_true] at h
  obtain ⟨h1, h2⟩ := h
  refine ⟨?_, by simpa using h2⟩
  show X.env.scope.names.lookup x = some .globalImplicit
  rw [e]
  split at h1
  · assumption
  · cases h1
theorem visB_iff {X : Cx} {sc : Scope} {x : Str} (e : X.env.scope = sc) (h : visB sc x = true) : Vis X.env.scope x ∧ (x == ("__debug__" : Str)) = false ∧ (x == ("__classdict__" : Str)) = false := by
  unfold visB at h
  rw [Bool.and_eq_true, Bool.and_eq_true] at h
  obtain ⟨⟨h1, h2⟩, h3⟩ := h
  refine ⟨?_, by simpa using h2, by simpa using h3⟩
  rw [e]
  split at h1
  · exact .inl (by assumption)
  · exact .inr (.inl (by assumption))
  · exact .inr (.inr (by assumption))
  · cases h1

def bltOf : Pr → Option (Str × Nat)
  | .len => some ("len", 1)
  | .abs => some ("abs", 1)
  | .int => some ("int", 1)
  | .list => some ("list", 1)
  | .tuple => some ("tuple", 1)
  | .sorted => some ("sorted", 1)
  | .sum => some ("sum", 1)
  | .max1 => some ("max", 1)
  | .min1 => some ("min", 1)
  | .max2 => some ("max", 2)
  | .min2 => some ("min", 2)
  | .all => some ("all", 1)
  | .any => some ("any", 1)
  | _ => none
/-- its name, how many arguments, of what the receiver is -/
def metOf : Pr → Option (Str × Nat × Nat)
  | .join => some ("join", 1, 3)
  | .index => some ("index", 1, 4)
  | .count => some ("count", 1, 4)
  | .get1 => some ("get", 1, 6)
  | .get2 => some ("get", 2, 6)
  | _ => none
section
variable {X : Cx} {C : Call}
theorem prim1 {p : Pr} {f : D → Option D} (h1 : ∀ a, primF p [a] = f a) (h2 : ∀ ds d, primF p ds = some d → ds.length = 1) : ∀ ds d, primF p ds = some d → f1 f ds = some d := by
  intro ds d h
  have l := h2 ds d h
  cases ds with
  | nil => cases l
  | cons a r =>
    cases r with
    | nil => rw [h1] at h; exact h
    | cons _ _ => cases l
theorem one_of {p : Pr} (hp : p = .len ∨ p = .abs ∨ p = .int ∨ p = .list ∨ p = .tuple) : ∀ ds d, primF p ds = some d → ds.length = 1 := by
  intro ds d h
  rcases hp with rfl | rfl | rfl | rfl | rfl <;> (cases ds with
    | nil => cases h
    | cons a r => cases r with
      | nil => rfl
      | cons _ _ => cases h)
theorem blt_ok (hc : X.calm = true) (hu : X.A.units + 100 < cLine) {p : Pr} {x : Str} {n : Nat} (h : bltOf p = some (x, n)) : x ≠ "__name__" ∧
    ((∃ id, bootBuiltins x = some (.builtin id) ∧ CallR X (.builtin id) (rsD X (primF p) (frP p))) ∨ (∃ T, bootBuiltins x = some (.type T) ∧ CallR X (.type T) (rsD X (primF p) (frP p)))) := by
  cases p with
  | len =>
    cases h
    exact ⟨by decide, .inl ⟨_, boot_len, callR_f1 c_len (prim1 (fun _ => rfl) (one_of (.inl rfl)))⟩⟩
  | abs =>
    cases h
    exact ⟨by decide, .inl ⟨_, boot_abs, callR_f1 c_abs (prim1 (fun _ => rfl) (one_of (.inr (.inl rfl))))⟩⟩
  | int =>
    cases h
    exact ⟨by decide, .inr ⟨_, boot_int, callR_f1 c_int (prim1 (fun _ => rfl) (one_of (.inr (.inr (.inl rfl)))))⟩⟩
  | list =>
    cases h
    exact ⟨by decide, .inr ⟨_, boot_list, callR_f1 c_list (prim1 (fun _ => rfl) (one_of (.inr (.inr (.inr (.inl rfl))))))⟩⟩
  | tuple =>
    cases h
    refine ⟨by decide, .inr ⟨_, boot_tuple, callR_imp c_tuple fun vs H Q q => q.imp (prim1 (fun _ => rfl) (one_of (.inr (.inr (.inr (.inr rfl)))))) fun ds d e => .inr ?_⟩⟩
    obtain ⟨a, rfl, e⟩ := f1_some (prim1 (p := .tuple) (fun _ => rfl) (one_of (.inr (.inr (.inr (.inr rfl))))) ds d e)
    obtain ⟨xs, _, rfl⟩ := Option.map_eq_some_iff.mp e
    rfl
  | sorted => cases h; exact ⟨by decide, .inl ⟨_, boot_sorted, c_sorted hu⟩⟩
  | sum => cases h; exact ⟨by decide, .inl ⟨_, boot_sum, c_sum hc⟩⟩
  | max1 => cases h; exact ⟨by decide, .inl ⟨_, boot_max, c_max1 hc hu⟩⟩
  | min1 => cases h; exact ⟨by decide, .inl ⟨_, boot_min, c_min1 hc hu⟩⟩
  | max2 => cases h; exact ⟨by decide, .inl ⟨_, boot_max, c_max2 hc⟩⟩
  | min2 => cases h; exact ⟨by decide, .inl ⟨_, boot_min, c_min2 hc⟩⟩
  | all => cases h; exact ⟨by decide, .inl ⟨_, boot_all, c_all hc⟩⟩
  | any => cases h; exact ⟨by decide, .inl ⟨_, boot_any, c_any hc⟩⟩
  | _ => cases h

/-- a call of a built-in -/
theorem s_blt (hc : X.calm = true) (hu : X.A.units + 100 < cLine) {p : Pr} {x : Str} {n : Nat} (h : bltOf p = some (x, n)) (hg : Gl X x) (hd : (x == ("__debug__" : Str)) = false) (hm : X.mg x = none) {q pos : Pos} {es : IEs} {xs : List Expr} (hx : OpsP X C es xs) (ns : nostar xs = true) (h0 : xs ≠ []) :
    PE X (.Call (.Name x q) xs [] pos) (tE X.K X.w C (.prim p es)) := by
  cases xs with
  | nil => exact absurd rfl h0
  | cons a r =>
    obtain ⟨n1, n2⟩ := nostar_cons ns
    obtain ⟨hn, h | h⟩ := blt_ok hc hu h
    · obtain ⟨id, hb, hr⟩ := h
      exact (pe_callB hr hg hm hb (hx.pa ns) hn hd (star_cons n1) (no_any n2)).weaken fun σ H Q q => prim_ops q
    · obtain ⟨id, hb, hr⟩ := h
      exact (pe_callTy hr hg hm hb (hx.pa ns) hn hd (star_cons n1) (no_any n2)).weaken fun σ H Q q => prim_ops q

/-! ### methods -/
theorem kind_is {pins : List (Addr × Obj)} {σ : L2.St} {H : Hp} {s : Shared} {P : Addr → Prop} (I : Inv X pins σ H s) {x : V} {v : Value} {d : D} (h : DenT X.K X.w P H x d) (r : RelV x v) {k : Nat} {T : String} (hk : kindD d = k) (hT : (k = 3 ∧ T = "str") ∨ (k = 4 ∧ T = "list") ∨ (k = 6 ∧ T = "dict")) :
    s.TypeIs v T ∧ ∀ a, v = .ref a → ∃ ob, s.heap.get? a = some ob ∧ ob.dict = none := by
  rcases hT with ⟨rfl, rfl⟩ | ⟨rfl, rfl⟩ | ⟨rfl, rfl⟩
  · cases d with
    | str z =>
      obtain ⟨rfl, _⟩ := h.str
      obtain ⟨t, rfl⟩ := r
      exact ⟨typeIs_str s z t, fun _ e => nomatch e⟩
    | _ => cases hk
  · cases d with
    | list ds =>
      obtain ⟨a, xs, rfl, rd, _⟩ := h.list
      cases r
      obtain ⟨its, _, pl, _⟩ := I.list (.inl rd)
      refine ⟨pl.isList.typeIs, fun a e => ?_⟩
      cases e
      obtain ⟨o, n, e, c, hd, _⟩ := pl
      exact ⟨o, e, hd⟩
    | _ => cases hk
  · cases d with
    | dict ds =>
      obtain ⟨a, es, rfl, ⟨⟨o, ep, e, ex, _⟩, _⟩, _⟩ := h.dict
      cases r
      have e := dob_read I e
      refine ⟨⟨o, e, ex.1⟩, fun a e2 => ?_⟩
      cases e2
      exact ⟨o, e, ex.2.1⟩
    | _ => cases hk
def noIo : IEs → Bool
  | .nil => true
  | .cons (.io _) _ => false
  | .cons _ es => noIo es
theorem noIo_cons {e : IE} {es : IEs} (h : noIo (.cons e es) = true) : (∀ i, e ≠ .io i) ∧ noIo es = true := by
  cases e <;> first | exact ⟨fun i q => (nomatch q), h⟩ | cases h
/-- operands, each with what it is of -/
def opsRK (K : PySem.W.Frag) (w : World) (C : Call) : IEs → List D → L2.St → Hp → (List V → Hp → Prop) → Prop
  | .nil, _, _, H, Q => Q [] H
  | .cons e es, ds, σ, H, Q => oR K w C e σ H fun x H1 => (∃ P d0, DenT K w P H1 x d0 ∧ ∀ d ds', ds = d :: ds' → kindD d0 = kindD d) ∧ opsRK K w C es ds.tail σ H1 fun xs H2 => Q (x :: xs) H2
theorem opsK_ok {K : PySem.W.Frag} {w : World} {Z : Addr → Prop} {σ : L2.St} : ∀ (es : IEs) {ρ ρ' : Ro} {H : Hp} {ds : List D} {Q : List V → Hp → Prop}, noIo es = true → Rel K w Z ρ σ H → evOps C es ρ = some (ds, ρ') →
    (∀ vs H', Go (Ow ρ σ) H (Ow ρ' σ) H' → Rel K w Z ρ' σ H' → OpsD K w ρ' σ (PP Z ρ' σ) H' es vs ds → Q vs H') → opsRK K w C es ds σ H Q
  | .nil, ρ, ρ', H, ds, Q, _, r, h, hQ => by
    cases (show some (([] : List D), ρ) = some (ds, ρ') from h)
    exact hQ [] H Go.refl r .nil
  | .cons e es, ρ, ρ', H, ds, Q, hio, r, h, hQ => by
    obtain ⟨hi1, hi2⟩ := noIo_cons hio
    rcases ie_cases e with ⟨i, rfl⟩ | ⟨i, rfl⟩ | ⟨h1, h2⟩
    · have h : ((getAny ρ i).bind fun d0 => (evOps C es ρ).bind fun p => (getAny p.2 i).bind fun d => if kindD d0 = kindD d then some (d :: p.1, p.2) else none) = some (ds, ρ') := h
      obtain ⟨d0, e0, h⟩ := Option.bind_eq_some_iff.mp h
      obtain ⟨⟨es', ρ1⟩, e1, h⟩ := Option.bind_eq_some_iff.mp h
      obtain ⟨d, e2, h⟩ := Option.bind_eq_some_iff.mp h
      obtain ⟨hk, h⟩ := ite_some h
      cases h
      obtain ⟨v, ev, dv0⟩ := r.any e0
      refine ⟨v, ev, ⟨_, d0, dv0, fun d' ds' e => by cases e; exact hk⟩, opsK_ok es hi2 r e1 fun vs H' g r' o => hQ (v :: vs) H' g r' ?_⟩
      obtain ⟨v', ev', dv⟩ := r'.any e2
      rw [ev] at ev'
      cases ev'
      exact .own ev e2 dv o
    · exact absurd rfl (hi1 i)
    · rw [evOps_cons h1 h2] at h
      obtain ⟨⟨d, ρ1⟩, e1, h⟩ := Option.bind_eq_some_iff.mp h
      obtain ⟨⟨ds1, ρ2⟩, e2, h⟩ := Option.map_eq_some_iff.mp h
      cases h
      show oR K w C e σ H _
      rw [oR_val h1 h2]
      refine ⟨Z, ρ, d, ρ1, r, e1, fun v H1 g1 o1 => ?_⟩
      obtain ⟨r1, dv⟩ := o1.weak r.z
      exact ⟨⟨_, d, .inl dv, fun d' ds' e => by cases e; rfl⟩, opsK_ok es hi2 r1 e2 fun vs H' g r' o => hQ (v :: vs) H' (g1.trans g) r' (.val h1 h2 (dv.go (g.pp fun _ q => .inl q)) o)⟩
/-- a primitive's operands with what they are of -/
theorem primK_ops {p : Pr} {es : IEs} {σ : L2.St} {H : Hp} {Q : VK} (hio : noIo es = true) (h : tE X.K X.w C (.prim p es) σ H Q) : ∃ ds d, primF p ds = some d ∧ opsRK X.K X.w C es ds σ H fun vs H1 => ∃ P, PIn P H1 ∧ Paired (DenT X.K X.w P H1) vs ds ∧ Aft X.K X.w P H1 (frP p) d Q := by
  obtain ⟨Z, ρ, d, ρ', r, e, hQ⟩ := h
  obtain ⟨ds, e1, e2⟩ := prim_some e
  exact ⟨ds, d, e2, opsK_ok es hio r e1 fun vs H' g r' o => ⟨PP Z ρ' σ, fun a q => r'.pp q, o.dens, aft_of r' g hQ⟩⟩
theorem oR_mono {K : PySem.W.Frag} {w : World} {e : IE} {σ : L2.St} {H : Hp} {Q Q' : VK} (hq : ∀ v H', Q v H' → Q' v H') (h : oR K w C e σ H Q) : oR K w C e σ H Q' := by
  rcases ie_cases e with ⟨i, rfl⟩ | ⟨i, rfl⟩ | ⟨h1, h2⟩
  · obtain ⟨v, e, q⟩ := h; exact ⟨v, e, hq _ _ q⟩
  · obtain ⟨v, e, q⟩ := h; exact ⟨v, e, hq _ _ q⟩
  · rw [oR_val h1 h2] at h ⊢
    obtain ⟨Z, ρ, d, ρ', h3, h4, h5⟩ := h
    exact ⟨Z, ρ, d, ρ', h3, h4, fun v H' g o => hq _ _ (h5 v H' g o)⟩
theorem opsR_of {K : PySem.W.Frag} {w : World} : ∀ (es : IEs) {ds : List D} {σ : L2.St} {H : Hp} {Q : List V → Hp → Prop}, opsRK K w C es ds σ H Q → opsR K w C es σ H Q
  | .nil, _, _, _, _, h => h
  | .cons e es, ds, σ, H, Q, h => oR_mono (fun v H' q => opsR_of es q.2) h
/-- a method of a built-in type -/
theorem met_ok (hu : X.A.units + 100 < cLine) {p : Pr} {x : Str} {n k : Nat} (h : metOf p = some (x, n, k)) : ∃ T id, ((k = 3 ∧ T = "str") ∨ (k = 4 ∧ T = "list") ∨ (k = 6 ∧ T = "dict")) ∧ PlainAttrs T ∧ Slot T x id ∧ typeOf (.builtin id) = pure (.type "method_descriptor") ∧
    MtR X id (rmD X (primF p) (frP p)) ∧ (∀ d ds e, primF p (d :: ds) = some e → kindD d = k) ∧ primF p [] = none ∧ 1 ≤ n ∧ n < 25 := by
  cases p with
  | join =>
    cases h
    refine ⟨"str", _, .inl ⟨rfl, rfl⟩, PySem.F.plainAttrs_str, PySem.F.slot_str_join, PySem.F.type_str_join, m_join, fun d ds e h => ?_, rfl, by decide, by decide⟩
    cases d <;> first | rfl | cases h
  | index =>
    cases h
    refine ⟨"list", _, .inr (.inl ⟨rfl, rfl⟩), PySem.F.plainAttrs_list, PySem.F.slot_list_index, PySem.F.type_list_index, m_index hu, fun d ds e h => ?_, rfl, by decide, by decide⟩
    cases d <;> first | rfl | cases h
  | count =>
    cases h
    refine ⟨"list", _, .inr (.inl ⟨rfl, rfl⟩), PySem.F.plainAttrs_list, PySem.F.slot_list_count, PySem.F.type_list_count, m_count hu, fun d ds e h => ?_, rfl, by decide, by decide⟩
    cases d <;> first | rfl | cases h
  | get1 =>
    cases h
    refine ⟨"dict", _, .inr (.inr ⟨rfl, rfl⟩), PySem.F.plainAttrs_dict, PySem.F.slot_dict_get, PySem.F.type_dict_get, m_get1 hu, fun d ds e h => ?_, rfl, by decide, by decide⟩
    cases d <;> first | rfl | cases h
  | get2 =>
    cases h
    refine ⟨"dict", _, .inr (.inr ⟨rfl, rfl⟩), PySem.F.plainAttrs_dict, PySem.F.slot_dict_get, PySem.F.type_dict_get, m_get2 hu, fun d ds e h => ?_, rfl, by decide, by decide⟩
    cases d <;> first | rfl | cases h
  | _ => cases h
theorem s_met (hu : X.A.units + 100 < cLine) {p : Pr} {x : Str} {n k : Nat} (h : metOf p = some (x, n, k)) {o : Expr} {args : List Expr} {ap cp : Pos} (hl : args.length = n) (hb : noSuper o = true) (hline : (ap.endLine == cp.line) = true) (ns : nostar args = true)
    {es : IEs} (hio : noIo es = true) (hx : OpsP X C es (o :: args)) : PE X (.Call (.Attribute o x ap) args [] cp) (tE X.K X.w C (.prim p es)) := by
  obtain ⟨T, id, hT, pa, slot, hty, hm, hk, h0, hn1, hn⟩ := met_ok hu h
  cases es with
  | nil => exact hx.elim
  | cons e es =>
    obtain ⟨ho, ha⟩ := hx
    have ha := ha.pa ns
    refine ⟨fun pins s σ H Q I hq => ?_⟩
    obtain ⟨ds, d, hp, hq⟩ := primK_ops hio hq
    cases ds with
    | nil => rw [h0] at hp; cases hp
    | cons d1 ds =>
      have hk1 := hk d1 ds d hp
      have hq : oR X.K X.w C e σ H _ := hq
      refine wpAny_Call_method_late (noSuper_eq hb) ?_ hline rfl (thn (ho.run pins s σ H _ I hq) fun v s1 ⟨x, H1, I1, r1, ⟨P, d0, dv, hk0⟩, q1⟩ => ?_)
      · rw [no_all ns]
        show (true && true && decide (args.length + 0 + 0 < 30)) = true
        rw [decide_eq_true (by omega)]
        rfl
      · obtain ⟨t1, t2⟩ := kind_is I1 dv r1 (hk0 d1 ds rfl) (by rw [hk1]; exact hT)
        refine ⟨T, id, pa, slot, hty, t1, t2, ?_⟩
        have hA := ha.run cp pins s1 σ H1 _ I1 (opsR_of es q1)
        have na := no_any (pos := cp) (env := X.env) ns
        cases args with
        | nil => rw [← hl] at hn1; exact absurd hn1 (by decide)
        | cons a0 as =>
        rw [star_cons (nostar_cons ns).1] at hA na ⊢
        refine Calls.callWith_builtin na (Calls.evalArgs_plain ?_)
        refine thn hA fun us s2 ⟨vs, H2, I2, r2, P2, hP, hd, a⟩ => ?_
        exact hm pins s2 σ H2 x vs v us Q I2 r1 r2 ⟨P2, d1 :: ds, d, hP, hd, hp, a⟩
end
end DV
end

section
/-! slices, isinstance; every primitive by its text -/
namespace DV
open PySem PySem.Spec PyProof.Rows L2
section
variable {X : Cx} {C : Call}
def PtV (x : V) (o : Option Int) : Prop := (x = .non ∧ o = none) ∨ ∃ i, x = .int i ∧ o = some i
def tPartN (t : TE) : TO := fun σ H Q => t σ H fun x H1 => ∃ o, PtV x o ∧ Q o H1
theorem po_someN {e : Expr} {te : TE} (h : PE X e te) : PO X (some e) (tPartN te) := by
  refine ⟨fun pins s σ H Q I hw => ?_⟩
  rw [evalPart_some]
  refine thn (h.run pins s σ H _ I hw) fun u s1 ⟨x, H1, I1, r1, q1⟩ => ?_
  obtain ⟨o, ⟨rfl, rfl⟩ | ⟨i, rfl, rfl⟩, q⟩ := q1
  · cases r1
    exact ⟨none, H1, I1, .none, q⟩
  · obtain ⟨t, rfl⟩ := r1
    exact ⟨some i, H1, I1, .int i t, q⟩
theorem part_of {d : D} {o : Option Int} (h : partOf d = some o) {K : PySem.W.Frag} {w : World} {P : Addr → Prop} {H : Hp} {x : V} {d0 : D} (hx : DenT K w P H x d0) (hk : kindD d0 = kindD d) : ∃ o', PtV x o' := by
  cases d with
  | int i => cases d0 <;> first | exact ⟨_, .inr ⟨_, hx.int, rfl⟩⟩ | cases hk
  | none => cases d0 <;> first | exact ⟨_, .inl ⟨hx.none, rfl⟩⟩ | cases hk
  | _ => cases h
theorem part_is {d : D} {o o' : Option Int} (h : partOf d = some o) {K : PySem.W.Frag} {w : World} {P : Addr → Prop} {H : Hp} {x : V} (hx : DenT K w P H x d) (p : PtV x o') : o' = o := by
  cases d with
  | int i =>
    cases (show some (some i) = some o from h)
    have := hx.int
    subst this
    rcases p with ⟨e, _⟩ | ⟨j, e, rfl⟩
    · cases e
    · cases e; rfl
  | none =>
    cases (show some Option.none = some o from h)
    have := hx.none
    subst this
    rcases p with ⟨e, rfl⟩ | ⟨j, e, rfl⟩
    · rfl
    · cases e
  | _ => cases h
theorem kind_int {d : D} {i : Int} {K : PySem.W.Frag} {w : World} {P : Addr → Prop} {H : Hp} {x : V} {d0 : D} (hx : DenT K w P H x d0) (hk : kindD d0 = kindD (.int i)) : ∃ j, x = .int j := by
  cases d0 <;> first | exact ⟨_, hx.int⟩ | cases hk
/-- a slice's bounds, as operands -/
def bnds (K : PySem.W.Frag) (w : World) (C : Call) : Bool → IEs → TO × IEs
  | true, .cons e es => (tPartN (oR K w C e), es)
  | _, es => (tNoPart, es)

theorem s_sl00 {a : IE} {x : Expr} {pos p2 : Pos} (hx : PE X x (oR X.K X.w C a)) (hio : noIo (.cons a .nil) = true) : PE X (.Subscript x (.Slice none none none p2) pos) (tE X.K X.w C (.prim (.sl false false) (.cons a .nil))) := by
  refine (pe_slice sl_allD hx po_none po_none).weaken fun σ H Q h => ?_
  obtain ⟨ds, d, hp, h⟩ := primK_ops hio h
  refine oR_mono (fun v H' ⟨_, q⟩ => ?_) (show oR X.K X.w C a σ H _ from h)
  obtain ⟨P, hP, hd, af⟩ := q
  cases hd with
  | cons h1 t => cases t; exact ⟨P, _, d, hP, h1, hp, af⟩
theorem s_sl10 {a l : IE} {x y : Expr} {pos p2 : Pos} (hx : PE X x (oR X.K X.w C a)) (hy : PE X y (oR X.K X.w C l)) (hio : noIo (.cons a (.cons l .nil)) = true) : PE X (.Subscript x (.Slice (some y) none none p2) pos) (tE X.K X.w C (.prim (.sl true false) (.cons a (.cons l .nil)))) := by
  refine (pe_slice sl_allD hx (po_someN hy) po_none).weaken fun σ H Q h => ?_
  obtain ⟨ds, d, hp, h⟩ := primK_ops hio h
  match ds, hp with
  | [da, dl], hp =>
    obtain ⟨l', el, hp⟩ := Option.bind_eq_some_iff.mp (show ((partOf dl).bind fun l => slF l none da) = some d from hp)
    refine oR_mono (fun v H' ⟨_, q⟩ => ?_) (show oR X.K X.w C a σ H _ from h)
    refine oR_mono (fun u H2 ⟨⟨P0, d0, q0, qk⟩, q⟩ => ?_) (show oR X.K X.w C l σ H' _ from q)
    obtain ⟨o, po⟩ := part_of el q0 (qk dl [] rfl)
    obtain ⟨P, hP, hd, af⟩ := q
    cases hd with
    | cons h1 t => cases t with
      | cons h2 t => cases t; exact ⟨o, po, P, _, d, hP, h1, by rw [part_is el h2 po]; exact hp, af⟩
theorem s_sl01 {a l : IE} {x y : Expr} {pos p2 : Pos} (hx : PE X x (oR X.K X.w C a)) (hy : PE X y (oR X.K X.w C l)) (hio : noIo (.cons a (.cons l .nil)) = true) : PE X (.Subscript x (.Slice none (some y) none p2) pos) (tE X.K X.w C (.prim (.sl false true) (.cons a (.cons l .nil)))) := by
  refine (pe_slice sl_allD hx po_none (po_someN hy)).weaken fun σ H Q h => ?_
  obtain ⟨ds, d, hp, h⟩ := primK_ops hio h
  match ds, hp with
  | [da, dl], hp =>
    obtain ⟨l', el, hp⟩ := Option.bind_eq_some_iff.mp (show ((partOf dl).bind fun l => slF none l da) = some d from hp)
    refine oR_mono (fun v H' ⟨_, q⟩ => ?_) (show oR X.K X.w C a σ H _ from h)
    refine oR_mono (fun u H2 ⟨⟨P0, d0, q0, qk⟩, q⟩ => ?_) (show oR X.K X.w C l σ H' _ from q)
    obtain ⟨o, po⟩ := part_of el q0 (qk dl [] rfl)
    obtain ⟨P, hP, hd, af⟩ := q
    cases hd with
    | cons h1 t => cases t with
      | cons h2 t => cases t; exact ⟨o, po, P, _, d, hP, h1, by rw [part_is el h2 po]; exact hp, af⟩
theorem s_sl11 {a l u : IE} {x y z : Expr} {pos p2 : Pos} (hx : PE X x (oR X.K X.w C a)) (hy : PE X y (oR X.K X.w C l)) (hz : PE X z (oR X.K X.w C u)) (hio : noIo (.cons a (.cons l (.cons u .nil))) = true) : PE X (.Subscript x (.Slice (some y) (some z) none p2) pos) (tE X.K X.w C (.prim (.sl true true) (.cons a (.cons l (.cons u .nil))))) := by
  refine (pe_slice sl_allD hx (po_someN hy) (po_someN hz)).weaken fun σ H Q h => ?_
  obtain ⟨ds, d, hp, h⟩ := primK_ops hio h
  match ds, hp with
  | [da, dl, du], hp =>
    obtain ⟨l', el, hp⟩ := Option.bind_eq_some_iff.mp (show ((partOf dl).bind fun l => (partOf du).bind fun u => slF l u da) = some d from hp)
    obtain ⟨u', eu, hp⟩ := Option.bind_eq_some_iff.mp hp
    refine oR_mono (fun v H' ⟨_, q⟩ => ?_) (show oR X.K X.w C a σ H _ from h)
    refine oR_mono (fun y' H2 ⟨⟨P0, d0, q0, qk⟩, q⟩ => ?_) (show oR X.K X.w C l σ H' _ from q)
    obtain ⟨o, po⟩ := part_of el q0 (qk dl [du] rfl)
    refine ⟨o, po, oR_mono (fun z' H3 ⟨⟨P1, d1, q1, qk1⟩, q⟩ => ?_) (show oR X.K X.w C u σ H2 _ from q)⟩
    obtain ⟨o2, po2⟩ := part_of eu q1 (qk1 du [] rfl)
    obtain ⟨P, hP, hd, af⟩ := q
    cases hd with
    | cons h1 t => cases t with
      | cons h2 t => cases t with
        | cons h3 t => cases t; exact ⟨o2, po2, P, _, d, hP, h1, by rw [part_is el h2 po, part_is eu h3 po2]; exact hp, af⟩
/-- the same with a step -/
theorem s_st00 {a k : IE} {x z : Expr} {pos p2 : Pos} (hx : PE X x (oR X.K X.w C a)) (hz : PE X z (oR X.K X.w C k)) (hio : noIo (.cons a (.cons k .nil)) = true) : PE X (.Subscript x (.Slice none none (some z) p2) pos) (tE X.K X.w C (.prim (.slst false false) (.cons a (.cons k .nil)))) := by
  refine (pe_sliceS slS_allD hx po_none po_none hz).weaken fun σ H Q h => ?_
  obtain ⟨ds, d, hp, h⟩ := primK_ops hio h
  match ds, hp with
  | [da, .int kk], hp =>
    refine oR_mono (fun v H' ⟨_, q⟩ => ?_) (show oR X.K X.w C a σ H _ from h)
    refine oR_mono (fun z' H3 ⟨⟨P1, d1, q1, qk1⟩, q⟩ => ?_) (show oR X.K X.w C k σ H' _ from q)
    obtain ⟨P, hP, hd, af⟩ := q
    cases hd with
    | cons h1 t => cases t with
      | cons h3 t => cases t; exact ⟨kk, h3.int, P, _, d, hP, h1, hp, af⟩
theorem s_st10 {a l k : IE} {x y z : Expr} {pos p2 : Pos} (hx : PE X x (oR X.K X.w C a)) (hy : PE X y (oR X.K X.w C l)) (hz : PE X z (oR X.K X.w C k)) (hio : noIo (.cons a (.cons l (.cons k .nil))) = true) : PE X (.Subscript x (.Slice (some y) none (some z) p2) pos) (tE X.K X.w C (.prim (.slst true false) (.cons a (.cons l (.cons k .nil))))) := by
  refine (pe_sliceS slS_allD hx (po_someN hy) po_none hz).weaken fun σ H Q h => ?_
  obtain ⟨ds, d, hp, h⟩ := primK_ops hio h
  match ds, hp with
  | [da, dl, .int kk], hp =>
    obtain ⟨l', el, hp⟩ := Option.bind_eq_some_iff.mp (show ((partOf dl).bind fun l => slstF l none kk da) = some d from hp)
    refine oR_mono (fun v H' ⟨_, q⟩ => ?_) (show oR X.K X.w C a σ H _ from h)
    refine oR_mono (fun y' H2 ⟨⟨P0, d0, q0, qk⟩, q⟩ => ?_) (show oR X.K X.w C l σ H' _ from q)
    obtain ⟨o, po⟩ := part_of el q0 (qk dl _ rfl)
    refine ⟨o, po, oR_mono (fun z' H3 ⟨⟨P1, d1, q1, qk1⟩, q⟩ => ?_) (show oR X.K X.w C k σ H2 _ from q)⟩
    obtain ⟨P, hP, hd, af⟩ := q
    cases hd with
    | cons h1 t => cases t with
      | cons h2 t => cases t with
        | cons h3 t => cases t; exact ⟨kk, h3.int, P, _, d, hP, h1, by rw [part_is el h2 po]; exact hp, af⟩
theorem s_st01 {a l k : IE} {x y z : Expr} {pos p2 : Pos} (hx : PE X x (oR X.K X.w C a)) (hy : PE X y (oR X.K X.w C l)) (hz : PE X z (oR X.K X.w C k)) (hio : noIo (.cons a (.cons l (.cons k .nil))) = true) : PE X (.Subscript x (.Slice none (some y) (some z) p2) pos) (tE X.K X.w C (.prim (.slst false true) (.cons a (.cons l (.cons k .nil))))) := by
  refine (pe_sliceS slS_allD hx po_none (po_someN hy) hz).weaken fun σ H Q h => ?_
  obtain ⟨ds, d, hp, h⟩ := primK_ops hio h
  match ds, hp with
  | [da, dl, .int kk], hp =>
    obtain ⟨l', el, hp⟩ := Option.bind_eq_some_iff.mp (show ((partOf dl).bind fun l => slstF none l kk da) = some d from hp)
    refine oR_mono (fun v H' ⟨_, q⟩ => ?_) (show oR X.K X.w C a σ H _ from h)
    refine oR_mono (fun y' H2 ⟨⟨P0, d0, q0, qk⟩, q⟩ => ?_) (show oR X.K X.w C l σ H' _ from q)
    obtain ⟨o, po⟩ := part_of el q0 (qk dl _ rfl)
    refine ⟨o, po, oR_mono (fun z' H3 ⟨⟨P1, d1, q1, qk1⟩, q⟩ => ?_) (show oR X.K X.w C k σ H2 _ from q)⟩
    obtain ⟨P, hP, hd, af⟩ := q
    cases hd with
    | cons h1 t => cases t with
      | cons h2 t => cases t with
        | cons h3 t => cases t; exact ⟨kk, h3.int, P, _, d, hP, h1, by rw [part_is el h2 po]; exact hp, af⟩
theorem s_st11 {a l u k : IE} {x y v z : Expr} {pos p2 : Pos} (hx : PE X x (oR X.K X.w C a)) (hy : PE X y (oR X.K X.w C l)) (hv : PE X v (oR X.K X.w C u)) (hz : PE X z (oR X.K X.w C k)) (hio : noIo (.cons a (.cons l (.cons u (.cons k .nil)))) = true) :
    PE X (.Subscript x (.Slice (some y) (some v) (some z) p2) pos) (tE X.K X.w C (.prim (.slst true true) (.cons a (.cons l (.cons u (.cons k .nil)))))) := by
  refine (pe_sliceS slS_allD hx (po_someN hy) (po_someN hv) hz).weaken fun σ H Q h => ?_
  obtain ⟨ds, d, hp, h⟩ := primK_ops hio h
  match ds, hp with
  | [da, dl, du, .int kk], hp =>
    obtain ⟨l', el, hp⟩ := Option.bind_eq_some_iff.mp (show ((partOf dl).bind fun l => (partOf du).bind fun u => slstF l u kk da) = some d from hp)
    obtain ⟨u', eu, hp⟩ := Option.bind_eq_some_iff.mp hp
    refine oR_mono (fun v H' ⟨_, q⟩ => ?_) (show oR X.K X.w C a σ H _ from h)
    refine oR_mono (fun y' H2 ⟨⟨P0, d0, q0, qk⟩, q⟩ => ?_) (show oR X.K X.w C l σ H' _ from q)
    obtain ⟨o, po⟩ := part_of el q0 (qk dl _ rfl)
    refine ⟨o, po, oR_mono (fun y2 H3 ⟨⟨P2, d2, q2, qk2⟩, q⟩ => ?_) (show oR X.K X.w C u σ H2 _ from q)⟩
    obtain ⟨o2, po2⟩ := part_of eu q2 (qk2 du _ rfl)
    refine ⟨o2, po2, oR_mono (fun z' H4 ⟨⟨P1, d1, q1, qk1⟩, q⟩ => ?_) (show oR X.K X.w C k σ H3 _ from q)⟩
    obtain ⟨P, hP, hd, af⟩ := q
    cases hd with
    | cons h1 t => cases t with
      | cons h2 t => cases t with
        | cons h3 t => cases t with
          | cons h4 t => cases t; exact ⟨kk, h4.int, P, _, d, hP, h1, by rw [part_is el h2 po, part_is eu h3 po2]; exact hp, af⟩

theorem isi_boot {t : String} (ht : (isiF t .none).isSome = true) : bootBuiltins (t : Str) = some (.type t) ∧ (t : Str) ≠ "__name__" ∧ ((t : Str) == ("__debug__" : Str)) = false := by
  unfold isiF at ht
  split at ht
  · exact ⟨boot_int, by decide, by decide⟩
  · exact ⟨boot_bool, by decide, by decide⟩
  · exact ⟨boot_str, by decide, by decide⟩
  · exact ⟨boot_tuple, by decide, by decide⟩
  · exact ⟨boot_list, by decide, by decide⟩
  · exact ⟨boot_dict, by decide, by decide⟩
  · cases ht
theorem s_isi {t : String} {a : IE} {x : Expr} {p q pos : Pos} (ht : (isiF t .none).isSome = true) (hx : PE X x (oR X.K X.w C a)) (ns : starB x = false) (hg : Gl X "isinstance") (hm : X.mg "isinstance" = none) (hg2 : Gl X (t : Str)) (hm2 : X.mg (t : Str) = none) :
    PE X (.Call (.Name "isinstance" p) [x, .Name (t : Str) q] [] pos) (tE X.K X.w C (.prim (.isi t) (.cons a .nil))) := by
  obtain ⟨b1, b2, b3⟩ := isi_boot ht
  have h2 : PE X (.Name (t : Str) q) (tC (.ty t)) := pe_bltn hg2 hm2 b1 rfl b2 b3
  have hs : starEach [x, .Name (t : Str) q] X.env = (false, eval x X.env) :: starEach [.Name (t : Str) q] X.env := star_cons ns
  refine (pe_callB (c_isi ht) hg hm boot_isinstance (pa_cons hx (pa_cons h2 pa_nil) hs) (by decide) (by decide) hs rfl).weaken fun σ H Q h => ?_
  obtain ⟨Z, ρ, d, ρ', r, e, hQ⟩ := h
  obtain ⟨ds, e1, e2⟩ := prim_some e
  refine ops1_ok r e1 fun x H' dx ed g r' h1 => ⟨PP Z ρ' σ, x, dx, d, fun a q => r'.pp q, rfl, h1, by subst ed; exact e2, aft_of r' g hQ⟩
theorem s_isN {a : IE} {x : Expr} {j : Nat} {p pos : Pos} (hx : PE X x (oR X.K X.w C a)) : Good X C (.prim .isN (.cons a .nil)) (.Compare x [.Is] [.Constant .none j p] pos) := by
  have key : ∀ {σ : L2.St} {H : Hp} {Q : VK}, tE X.K X.w C (.prim .isN (.cons a .nil)) σ H Q → tIsN (oR X.K X.w C a) σ H Q := fun {σ H Q} h => by
    obtain ⟨Z, ρ, d, ρ', r, e, hQ⟩ := h
    obtain ⟨ds, e1, e2⟩ := prim_some e
    refine ops1_ok r e1 fun v H' dx ed g r' h1 => ?_
    subst ed
    have fin : ∀ b : Bool, decide (v = .non) = b → primF .isN [dx] = some (.bool b) → Q (.bl (decide (v = .non))) H' := fun b eb e3 => by
      rw [e3] at e2
      cases e2
      rw [eb]
      exact hQ _ H' g (.flat rfl r' (.bl b))
    cases dx with
    | none => exact fin true (by rw [h1.none]; rfl) rfl
    | bool b => exact fin false (by rw [h1.bool]; rfl) rfl
    | int b => exact fin false (by rw [h1.int]; rfl) rfl
    | str b => exact fin false (by rw [h1.str.1]; rfl) rfl
    | list b => obtain ⟨a, xs, e, _⟩ := h1.list; exact fin false (by rw [e]; rfl) rfl
    | tuple b => obtain ⟨a, xs, e, _⟩ := h1.tuple; exact fin false (by rw [e]; rfl) rfl
    | dict b => obtain ⟨a, xs, e, _⟩ := h1.dict; exact fin false (by rw [e]; rfl) rfl
  refine ⟨(pe_cmp (pc_isN hx) rfl).weaken fun σ H Q h => key h, (pt_cmp (pc_isN hx) rfl).weaken fun σ H Q h => key (tT_bool (fun ρ d ρ' e => ?_) h)⟩
  obtain ⟨ds, _, e2⟩ := prim_some e
  match ds, e2 with
  | [dx], e2 => exact ⟨_, (Option.some.inj e2).symm⟩
theorem s_notN {a : IE} {x : Expr} {j : Nat} {p pos : Pos} (hx : PE X x (oR X.K X.w C a)) : Good X C (.prim .notN (.cons a .nil)) (.Compare x [.IsNot] [.Constant .none j p] pos) := by
  have key : ∀ {σ : L2.St} {H : Hp} {Q : VK}, tE X.K X.w C (.prim .notN (.cons a .nil)) σ H Q → tNotN (oR X.K X.w C a) σ H Q := fun {σ H Q} h => by
    obtain ⟨Z, ρ, d, ρ', r, e, hQ⟩ := h
    obtain ⟨ds, e1, e2⟩ := prim_some e
    refine ops1_ok r e1 fun v H' dx ed g r' h1 => ?_
    subst ed
    have fin : ∀ b : Bool, (!decide (v = .non)) = b → primF .notN [dx] = some (.bool b) → Q (.bl (!decide (v = .non))) H' := fun b eb e3 => by
      rw [e3] at e2
      cases e2
      rw [eb]
      exact hQ _ H' g (.flat rfl r' (.bl b))
    cases dx with
    | none => exact fin false (by rw [h1.none]; rfl) rfl
    | bool b => exact fin true (by rw [h1.bool]; rfl) rfl
    | int b => exact fin true (by rw [h1.int]; rfl) rfl
    | str b => exact fin true (by rw [h1.str.1]; rfl) rfl
    | list b => obtain ⟨a, xs, e, _⟩ := h1.list; exact fin true (by rw [e]; rfl) rfl
    | tuple b => obtain ⟨a, xs, e, _⟩ := h1.tuple; exact fin true (by rw [e]; rfl) rfl
    | dict b => obtain ⟨a, xs, e, _⟩ := h1.dict; exact fin true (by rw [e]; rfl) rfl
  refine ⟨(pe_cmp (pc_notN hx) rfl).weaken fun σ H Q h => key h, (pt_cmp (pc_notN hx) rfl).weaken fun σ H Q h => key (tT_bool (fun ρ d ρ' e => ?_) h)⟩
  obtain ⟨ds, _, e2⟩ := prim_some e
  match ds, e2 with
  | [dx], e2 => exact ⟨_, (Option.some.inj e2).symm⟩
theorem g_cmp (hu : X.A.units + 100 < cLine) {a b : IE} {x y : Expr} {o : CmpOp} {pos : Pos} (hx : PE X x (oR X.K X.w C a)) (hy : PE X y (oR X.K X.w C b)) (hm : behindInMarks o y = false) : Good X C (.prim (.cmp o) (.cons a (.cons b .nil))) (.Compare x [o] [y] pos) := by
  refine ⟨s_cmp hu hx hy hm, (pt_cmpR (op_cmpD hu o) hx hy hm).weaken fun σ H Q h => ?_⟩
  have h := tT_bool (fun ρ d ρ' e => by
    obtain ⟨ds, _, e2⟩ := prim_some e
    match ds, e2 with
    | [dx, dy], e2 => exact (bool_of (show (cmpB o dx dy).map PyData.bool = some d from e2)).imp fun _ q => q.2) h
  obtain ⟨Z, ρ, d, ρ', r, e, hQ⟩ := h
  obtain ⟨ds, e1, e2⟩ := prim_some e
  refine ops2_ok r e1 fun x y H' dx dy ed g r' h1 h2 => ⟨PP Z ρ' σ, dx, dy, d, fun a q => r'.pp q, h1, h2, by subst ed; exact e2, ?_⟩
  have f : isCont d = false := by
    subst ed
    obtain ⟨b, _, rfl⟩ := bool_of (show (cmpB o dx dy).map PyData.bool = some d from e2)
    rfl
  refine aft_of r' g fun v H' g' o => hQ v H' g' ?_
  unfold Out at o ⊢
  rw [f, Bool.and_false] at o ⊢
  exact o

/-! ### all of them -/
def slArgs : Bool → Bool → Option Expr → Option Expr → Option (List Expr)
  | false, false, none, none => some []
  | true, false, some l, none => some [l]
  | false, true, none, some h => some [h]
  | true, true, some l, some h => some [l, h]
  | _, _, _, _ => none
/-- the texts of the operands -/
def primArgs (sc : Scope) : Pr → Expr → Option (List Expr)
  | .bin o, .BinOp a o' b _ => if o = o' then some [a, b] else none
  | .cmp o, .Compare a [o'] [b] _ => if o = o' ∧ isSetD b = false then some [a, b] else none
  | .neg, .UnaryOp .USub a _ => some [a]
  | .isN, .Compare a [.Is] [.Constant .none _ _] _ => some [a]
  | .notN, .Compare a [.IsNot] [.Constant .none _ _] _ => some [a]
  | .ix, .Subscript a b _ => if isSlice b = false then some [a, b] else none
  | .sl lo hi, .Subscript a (.Slice l h none _) _ => (slArgs lo hi l h).map fun r => a :: r
  | .slst lo hi, .Subscript a (.Slice l h (some k) _) _ => (slArgs lo hi l h).map fun r => a :: (r ++ [k])
  | .isi t, .Call (.Name f _) [a, .Name t' _] [] _ => if f = "isinstance" ∧ t' = (t : Str) ∧ glB sc f = true ∧ glB sc t' = true ∧ (isiF t .none).isSome = true ∧ starB a = false then some [a] else none
  | .sortedSet, .Call (.Name f _) [.Call (.Name g _) [a] [] _] [] _ => if f = "sorted" ∧ g = "set" ∧ glB sc f = true ∧ glB sc g = true ∧ starB a = false then some [a] else none
  | p, .Call (.Name f _) args [] _ => match bltOf p with
    | some (x, n) => if f = x ∧ args.length = n ∧ args ≠ [] ∧ glB sc f = true ∧ nostar args = true then some args else none
    | none => none
  | p, .Call (.Attribute o f ap) args [] cp => match metOf p with
    | some (x, n, k) => if f = x ∧ args.length = n ∧ noSuper o = true ∧ (ap.endLine == cp.line) = true ∧ nostar args = true then some (o :: args) else none
    | none => none
  | _, _ => none
end
def bltNames : List Str := ["len", "abs", "int", "list", "tuple", "sorted", "sum", "max", "min", "all", "any", "isinstance", "bool", "str", "dict", "range", "set", "zip", "enumerate"]
theorem blt_mem {p : Pr} {x : Str} {n : Nat} (h : bltOf p = some (x, n)) : x ∈ bltNames := by
  cases p <;> first | (cases h; decide) | cases h
theorem isi_mem {t : String} (ht : (isiF t .none).isSome = true) : (t : Str) ∈ bltNames := by
  unfold isiF at ht
  split at ht <;> first | decide | cases ht
end DV
end

section
/-! sets of keys of one kind, made of a list -/
namespace DV
open PySem PySem.Spec PyProof.Rows L2
section
variable {P : Program} {w : World} {K : Type} [DecidableEq K] (knd : KeyKind P w K) (kf : Value → K)
def GdE (e : Int × Value) : Prop := knd.is (kf e.2) e.2 = true ∧ e.1 = knd.hash (kf e.2) ∧ e.2.scannable = true
def kOf (e : Int × Value) : K := kf e.2
/-- the set at a: its keys are those of ks, at most n -/
def SetRK (h : Heap) (a : Addr) (ks : List K) (n : Nat) : Prop :=
  ∃ o es ep t, h.get? a = some o ∧ o.ExactSet ∧ o.data = .set es ep t ∧ (∀ e ∈ es.toList, GdE knd kf e) ∧ (es.toList.map (kOf kf)).Nodup ∧ (∀ k, k ∈ ks ↔ k ∈ es.toList.map (kOf kf)) ∧
    es.size < scanBound ∧ t.fits es.size = true ∧ es.size ≤ n ∧ Ris t.place.toList ∧ (w.params.followText "set-order" = true ∨ t.led = true)
end
section
variable {P : Program} {w : World} {K : Type} [DecidableEq K] {knd : KeyKind P w K} {kf : Value → K} {h h' : Heap} {a : Addr} {ks : List K} {n : Nat}
theorem SetRK.at (R : SetRK knd kf h a ks n) (k : ∀ o, h.get? a = some o → h'.get? a = some o) : SetRK knd kf h' a ks n := by
  obtain ⟨o, es, ep, t, ho, r⟩ := R
  exact ⟨o, es, ep, t, k o ho, r⟩
theorem gd_elems {l : List (Int × Value)} (g : ∀ e ∈ l, GdE knd kf e) : ElemsOf knd l := fun e he => by
  obtain ⟨h1, h2, h3⟩ := g e he
  exact ⟨⟨kf e.2, h1, h2⟩, h3⟩
theorem gd_is {e : Int × Value} (g : GdE knd kf e) (k : K) : knd.is k e.2 = true ↔ kOf kf e = k := by
  constructor
  · intro q
    exact knd.inj e.2 _ _ g.1 q
  · rintro rfl
    exact g.1
theorem gd_mem {l : List (Int × Value)} (g : ∀ e ∈ l, GdE knd kf e) (k : K) : k ∈ l.map (kOf kf) ↔ ∃ e ∈ l, knd.is k e.2 = true := by
  rw [List.mem_map]
  constructor
  · rintro ⟨e, he, q⟩
    exact ⟨e, he, (gd_is (g e he) k).2 q⟩
  · rintro ⟨e, he, q⟩
    exact ⟨e, he, (gd_is (g e he) k).1 q⟩
end
section
variable {P : Program} {w : World} {K : Type} [DecidableEq K] {knd : KeyKind P w K} {kf : Value → K} {A : Around} {E : Value → Shared → Prop} {s : Shared} {a : Addr} {ks : List K} {n : Nat}
theorem sk_add_tail {g : Bool → Sem Unit} (hg : ∀ (b : Bool) (s₁ : Shared) (Q' : Unit → Shared → Prop), Q' () s₁ → wpAny (model P w) A (g b) Q' E s₁)
    {o : Obj} {es : Array (Int × Value)} {ep : Nat} {t : SetTable} (ho : s.heap.get? a = some o) (hex : o.ExactSet) (hd : o.data = .set es ep t)
    {es1 : Array (Int × Value)} {t2 : SetTable} {ks' : List K} {m : Nat} (g1 : ∀ e ∈ es1.toList, GdE knd kf e) (nd1 : (es1.toList.map (kOf kf)).Nodup) (m1 : ∀ k, k ∈ ks' ↔ k ∈ es1.toList.map (kOf kf))
    (hb1 : es1.size < scanBound) (hf2 : t2.fits es1.size = true) (hn : es1.size ≤ m) (hr : Ris t2.place.toList) (hl : w.params.followText "set-order" = true ∨ t2.led = true) {wasDummy : Bool} {R : Option Bool → Shared → Prop}
    (hR : ∀ h', Heap.SameBut a s.heap h' → SetRK knd kf h' a ks' m → R (some true) { s with heap := h' }) :
    wpAny (model P w) A (do
        storeSet a es1 t2
        if (!wasDummy && t2.tooFull) = true then do
            g (relayAll t2 es1 (SetTable.grown es1.size)).2.2
            storeSet a (relayAll t2 es1 (SetTable.grown es1.size)).1 (relayAll t2 es1 (SetTable.grown es1.size)).2.1
            pure (some true)
          else pure (some true)) R E s := by
  refine wpAny_bind (wpAny_storeSet_of ho hd ?_ (fits_of_scanBound hb1))
  have ho1 := store_at (es' := es1) (t' := t2) ho hd
  have sb1 := Heap.SameBut.update s.heap a (Obj.putSet es1 t2)
  split
  · have pm := relayAll_perm t2 es1 (SetTable.grown es1.size)
    have hf3 := relayAll_fits t2 es1 (SetTable.grown es1.size)
    have hr3 := relayAll_ris t2 es1 (SetTable.grown es1.size)
    have hl3 := relayAll_led t2 es1 (SetTable.grown es1.size)
    generalize relayAll t2 es1 (SetTable.grown es1.size) = Z at pm hf3 hr3 hl3 ⊢
    obtain ⟨es2, t3, gave⟩ := Z
    dsimp only at pm hf3 hr3 hl3 ⊢
    have hsz : es2.size = es1.size := by rw [← Array.length_toList, pm.length_eq, Array.length_toList]
    have hb2 : es2.size < scanBound := by rw [hsz]; exact hb1
    refine wpAny_bind (hg _ _ _ ?_)
    refine wpAny_bind (wpAny_storeSet_of ho1 rfl ?_ (fits_of_scanBound hb2))
    have ho2 := store_at (es' := es2) (t' := t3) ho1 rfl
    refine wpAny_pure (hR _ (sb1.trans (Heap.SameBut.update _ a _)) ?_)
    exact ⟨_, es2, _, t3, ho2, hex, rfl, fun e he => g1 e (pm.mem_iff.mp he), (pm.map (kOf kf)).nodup_iff.mpr nd1, fun k => (m1 k).trans (pm.map (kOf kf)).mem_iff.symm, hb2, hf3, by rw [hsz]; exact hn, hr3,
      hl.imp id fun z => by rw [hl3]; exact z⟩
  · exact wpAny_pure (hR _ sb1 ⟨_, es1, _, t2, ho1, hex, rfl, g1, nd1, m1, hb1, hf2, hn, hr, hl⟩)
theorem sk_add {k : K} {v : Value} {Q : Bool → Shared → Prop} (R : SetRK knd kf s.heap a ks n) (hkey : knd.is k v = true) (hsc : v.scannable = true) (hkf : kf v = k) (room : n + 1 < scanBound)
    (hQ : ∀ b h', Heap.SameBut a s.heap h' → SetRK knd kf h' a (k :: ks) (n + 1) → Q b { s with heap := h' }) :
    wpAny (model P w) A (setAddHashed a v (knd.hash k)) Q E s := by
  obtain ⟨o, es, ep, t, ho, hex, hd, g, nd, hm, hb, hf, hn, hr, hl⟩ := R
  have hel : ElemsOf knd es.toList := gd_elems g
  unfold setAddHashed setAddHashedIn
  refine wpAny_holding (wpAny_bind (wpAny_setState_of ho hd hf ?_))
  dsimp only
  rw [byScan_of hsc hb hel]
  simp only [↓reduceIte]
  unfold setAddByScan
  refine wpAny_bind ?_
  refine wpAny_bind (wpAny_rule ?_)
  refine wpAny_bind (wpAny_setScan_of hkey ho hd hf hel ?_)
  cases hfi : List.findIdx? (fun e => knd.is k e.2) es.toList with
  | some j =>
    dsimp only
    obtain ⟨hj, pj, _⟩ := List.findIdx?_eq_some_iff_getElem.mp hfi
    have hSk : k ∈ es.toList.map (kOf kf) := (gd_mem g k).2 ⟨es.toList[j], List.getElem_mem hj, pj⟩
    refine wpAny_pure (wpAny_pure ?_)
    exact hQ _ s.heap (Heap.SameBut.refl a s.heap) ⟨o, es, ep, t, ho, hex, hd, g, nd, fun i => by
      rw [List.mem_cons, hm i]
      exact ⟨fun z => z.elim (fun e => e ▸ hSk) id, .inr⟩, hb, hf, by omega, hr, hl⟩
  | none =>
    dsimp only
    have hnk : k ∉ es.toList.map (kOf kf) := fun z => by
      obtain ⟨e, he, q⟩ := (gd_mem g k).1 z
      have c := List.findIdx?_eq_none_iff.mp hfi e he
      rw [q] at c
      cases c
    have hgw : ∀ (b : Bool) {s₁ : Shared} {Q' : Unit → Shared → Prop}, Q' () s₁ → wpAny (model P w) A (match b with | true => rule "set.scan.the-table-gave-way" | false => pure ()) Q' E s₁ :=
      fun b s₁ Q' q => by cases b <;> first | exact wpAny_pure q | exact wpAny_rule q
    have pm := layNew_perm t es (knd.hash k) v
    have hf1 := layNew_fits t es (knd.hash k) v
    have hr1 := layNew_ris t es (knd.hash k) v hr
    have hl1 := layNew_led t es (knd.hash k) v
    generalize layNew t es (knd.hash k) v = Z at pm hf1 hr1 hl1 ⊢
    obtain ⟨es1, t1, wasDummy, gave⟩ := Z
    dsimp only at pm hf1 hr1 hl1 ⊢
    rw [Array.toList_push] at pm
    have pc : es1.toList.Perm ((knd.hash k, v) :: es.toList) := pm.trans (List.perm_append_singleton _ _)
    have pk : (es1.toList.map (kOf kf)).Perm (k :: es.toList.map (kOf kf)) := by
      have := pc.map (kOf kf)
      rw [List.map_cons, show kOf kf (knd.hash k, v) = k from hkf] at this
      exact this
    have g1 : ∀ e ∈ es1.toList, GdE knd kf e := fun e he => by
      rcases List.mem_cons.mp (pc.mem_iff.mp he) with z | z
      · rw [z]
        exact ⟨by show knd.is (kf v) v = true; rw [hkf]; exact hkey, by show knd.hash k = knd.hash (kf v); rw [hkf], hsc⟩
      · exact g e z
    have nd1 : (es1.toList.map (kOf kf)).Nodup := pk.nodup_iff.mpr (List.nodup_cons.mpr ⟨hnk, nd⟩)
    have m1 : ∀ i, i ∈ k :: ks ↔ i ∈ es1.toList.map (kOf kf) := fun i => by
      rw [List.mem_cons, hm i, pk.mem_iff, List.mem_cons]
    have hsz : es1.size = es.size + 1 := by rw [← Array.length_toList, pc.length_eq, List.length_cons, Array.length_toList]
    have hb1 : es1.size < scanBound := by omega
    have hled : w.params.followText "set-order" = true ∨ t1.led = true := hl.imp id fun z => by rw [hl1]; exact z
    have hn1 : es1.size ≤ n + 1 := by omega
    refine wpAny_bind (hgw _ ?_)
    split
    · refine wpAny_bind ?_
      rw [hashByValue_scannable 8 hsc]
      refine wpAny_pure ?_
      refine sk_add_tail (knd := knd) (kf := kf) ?_ ho hex hd g1 nd1 m1 hb1 ?_ hn1 ?_ ?_ ?_
      · intro b s₁ Q' q; cases b <;> first | exact wpAny_pure q | exact wpAny_rule q
      · first | (split <;> first | exact hf1 | exact SetTable.fits_plain_off hf1) | exact hf1
      · first | (split <;> exact hr1) | exact hr1
      · first | (split <;> exact hled) | exact hled
      · intro h' sb r; dsimp only; exact wpAny_pure (hQ _ h' sb r)
    · refine wpAny_bind (wpAny_pure ?_)
      simp only [↓reduceIte]
      refine sk_add_tail (knd := knd) (kf := kf) ?_ ho hex hd g1 nd1 m1 hb1 hf1 hn1 hr1 hled ?_
      · intro b s₁ Q' q; cases b <;> first | exact wpAny_pure q | exact wpAny_rule q
      · intro h' sb r; dsimp only; exact wpAny_pure (hQ _ h' sb r)
end
end DV
end

section
namespace DV
open PySem PySem.Spec PyProof.Rows L2
def newSet (w : World) : Obj := { cls := .type "set", dict := none, data := .set #[] 0 (.fresh 0 0 (!w.params.followText "set-order")) }
section
variable {P : Program} {w : World} {K : Type} [DecidableEq K] {knd : KeyKind P w K} {kf : Value → K} {A : Around} {E : Value → Shared → Prop} {s : Shared}
theorem sk_code_new (a : Value) {Q₁ : Value → Shared → Prop}
    (h : Q₁ (.ref s.heap.objs.size) { s with heap := s.heap.push (newSet w) }) :
    codeAny (model P w) A (.call (.builtin "set.__new__") ⟨[.type "set", a], []⟩) (wants Q₁ E) s := by
  refine codeAny_of_tree ?_
  show wpAny _ A.in1 (do checkBuiltinCall "set.__new__" ⟨[.type "set", a], []⟩; again (.builtin "set.__new__" ⟨[.type "set", a], []⟩)) _ _ s
  refine wpAny_bind (wpAny_of_eq (PySem.F.newCall_set_1 a) (wpAny_pure ⟨plainId_quiet PySem.F.plain_set_new _, codeAny_builtin PySem.F.entry_set_new ?_⟩))
  rw [Around.under_plainId PySem.F.plain_set_new _]
  unfold Builtin.«set.__new__» Builtin.Frozenset.newClass
  have hsub := sub_set_self
  obtain ⟨hp, g, d, tk, os⟩ := s
  dsimp only
  wp_walk
  refine wpAny_askSetting (wpAny_pure ?_)
  dsimp only
  simp only [newObj]
  refine wpAny_bind (wpAny_alloc (wpAny_pure ?_))
  exact wpAny_pure h
theorem sk_fresh {h : Heap} : SetRK knd kf (h.push (newSet w)) h.objs.size [] 0 :=
  ⟨_, #[], 0, _, Heap.get?_push_size _ rfl, ⟨rfl, rfl, rfl⟩, rfl, (fun e he => by simp at he), (by simp), (fun k => by simp), (by decide), (by rfl), Nat.le_refl _, List.Pairwise.nil, by
    show _ ∨ (!w.params.followText "set-order") = true
    cases w.params.followText "set-order"
    · exact .inr rfl
    · exact .inl rfl⟩
theorem take_rev {α : Type} {l : List α} {i : Nat} {x : α} (h : l[i]? = some x) : l.take (i + 1) = l.take i ++ [x] := by
  rw [List.take_add_one, h]
  rfl
theorem SetRK.congr {h : Heap} {a : Addr} {ks ks' : List K} {n : Nat} (R : SetRK knd kf h a ks n) (e : ∀ k, k ∈ ks' ↔ k ∈ ks) : SetRK knd kf h a ks' n := by
  obtain ⟨o, es, ep, t, ho, hex, hd, g, nd, hm, r⟩ := R
  exact ⟨o, es, ep, t, ho, hex, hd, g, nd, fun k => (e k).trans (hm k), r⟩
theorem sk_loop {R : Result → Shared → Prop} {I : Addr} {fp wr : List Addr} {G : Array GenState → Array GenState → Prop} {n : Nat} {Pv : Nat → Value → Prop} {St : Nat → Shared → Prop}
    (W : WalksS P w A.in1 I fp wr G n Pv St) (S : Addr) (hSf : S ∉ fp) (ks : List K) (hkl : ks.length = n)
    (hval : ∀ i v, Pv i v → ∃ k, ks[i]? = some k ∧ knd.is k v = true ∧ v.scannable = true ∧ kf v = k) (hb : n + 1 < scanBound) :
    ∀ (k i : Nat) (s : Shared), n - i = k → i ≤ n → St i s → SetRK knd kf s.heap S (ks.take i) i →
      (∀ s', Moved (S :: wr) G s s' → SetRK knd kf s'.heap S ks n → R (.ok (.ret .none)) s') →
      codeAny (model P w) A (.builtin "set.update.loop" ⟨[.ref S, .ref I], []⟩) R s := by
  have hSw : S ∉ wr := fun h => hSf (W.sub _ h)
  have hsub : ∀ b ∈ wr, b ∈ S :: wr := fun b hb => List.mem_cons_of_mem _ hb
  intro k
  induction k with
  | zero =>
    intro i s hk hi hst hS hR
    have hin : i = n := by omega
    subst hin
    refine codeAny_builtin F.entry_set_update_loop ?_
    rw [Around.under_plainId F.plain_set_update_loop _]
    show wpAny _ A.in1 (pyNext (.ref I) >>= _) _ _ s
    refine wpAny_bind (W.done s _ _ hst fun s' hm => ?_)
    show wpAny _ A.in1 (ret Value.none) _ _ s'
    rw [List.take_of_length_le (by omega)] at hS
    exact wpAny_pure (hR s' (hm.mono hsub) (hS.at fun o ho => hm.heap S _ hSw ho))
  | succ k ih =>
    intro i s hk hi hst hS hR
    have hlt : i < n := by omega
    refine codeAny_builtin F.entry_set_update_loop ?_
    rw [Around.under_plainId F.plain_set_update_loop _]
    show wpAny _ A.in1 (pyNext (.ref I) >>= _) _ _ s
    refine wpAny_bind (W.item i s _ _ hlt hst fun v s' hP hst' hm => ?_)
    obtain ⟨x, hx, hkey, hsc, hkf⟩ := hval i v hP
    have hS' : SetRK knd kf s'.heap S (ks.take i) i := hS.at fun o ho => hm.heap S _ hSw ho
    show wpAny _ A.in1 (holding [v] (setAdd S v) >>= _) _ _ s'
    refine wpAny_bind (wpAny_holding ?_)
    unfold setAdd
    refine wpAny_holding ?_
    refine wpAny_bind (knd.pyHash (k := x) hkey ?_)
    refine sk_add (s := { s' with toks := s'.toks + 1 }) hS' hkey hsc hkf (by omega) fun b h' hsb hS2 => ?_
    have hSi : SetRK knd kf h' S (ks.take (i + 1)) (i + 1) := hS2.congr fun q => by
      rw [take_rev hx, List.mem_append, List.mem_singleton, List.mem_cons]
      exact Or.comm
    refine wpAny_pure ⟨plainId_quiet F.plain_set_update_loop _, ih (i + 1) _ (by omega) hlt (W.frame _ s' _ _ hst' (Nat.le_succ _) fun b hb o e => ?_) hSi fun s'' hm'' hS'' => ?_⟩
    · rw [hsb.2 b (fun h : b = S => hSf (by rw [← h]; exact hb))]; exact e
    · refine hR s'' (Moved.trans W.gtrans ((hm.mono hsub).then_heap (Nat.le_succ _) fun b o hb e => ?_) hm'') hS''
      rw [hsb.2 b (fun h : b = S => hb (by rw [h]; exact List.mem_cons_self))]; exact e
set_option maxHeartbeats 3200000 in
theorem sk_set_list {l : Addr} {items : Array Value} {ks : List K} {Q : Value → Shared → Prop}
    (hh : A.handled = none) (hl : s.heap.IsList l items) (hkl : ks.length = items.size) (hval : ∀ (i : Nat) (v : Value), items[i]? = some v → ∃ k, ks[i]? = some k ∧ knd.is k v = true ∧ v.scannable = true ∧ kf v = k) (hb : items.size + 1 < scanBound)
    (h : ∀ (h' : Heap) (tk : Nat), SetRK knd kf h' s.heap.objs.size ks items.size →
      (∀ b o, b < s.heap.objs.size → s.heap.get? b = some o → h'.get? b = some o) → Q (.ref s.heap.objs.size) { s with heap := h', toks := tk }) :
    wpAny (model P w) A (call (.type "set") [.ref l]) Q E s := by
  obtain ⟨c, tl, hmro⟩ := PySem.F.called_set.mro
  have hmade := PySem.F.called_set.made
  have hsub := PySem.F.called_set.sub
  refine wpAny_call (codeAny_of_tree ?_)
  show wpAny _ _ (callAny (.type "set") _) _ _ _
  refine wpAny_pure ⟨Code.quiet_builtin _ (by decide +kernel), codeAny_builtin PySem.F.entry_type_call ?_⟩
  rw [Around.under_plain (weight_type_call_type "set" [.ref l] []) rfl]
  have h1 := PySem.F.called_set.notType
  have h2 := PySem.F.called_set.canCreate
  have hct := PySem.F.typeCall_set_1 (.ref l)
  repeat (any_goals (first | assumption | wp_step))
  refine codeAny_mono (sk_code_new (.ref l) (E := E) (Q₁ := fun obj s₁ => obj = .ref s.heap.objs.size ∧ s₁ = { s with heap := s.heap.push (newSet w) }) ⟨rfl, rfl⟩) fun r s₁ hr => ?_
  cases r with
  | error e => exact hr
  | ok fl =>
    cases fl with
    | ret obj =>
      obtain ⟨rfl, rfl⟩ := hr
      have hS : (s.heap.push (newSet w)).get? s.heap.objs.size = some (newSet w) := Heap.get?_push_size _ rfl
      have hT : Shared.TypeIs { s with heap := s.heap.push (newSet w) } (.ref s.heap.objs.size) "set" := ⟨_, hS, rfl⟩
      have hli := PySem.F.called_set.init.lookup
      have hbi := PySem.F.called_set.init.bind (.ref s.heap.objs.size)
      repeat (any_goals (first | assumption | wp_step))
      refine codeAny_mono (codeAny_call_builtin (R := wants (fun r s₂ => r = .none ∧ ∃ h' tk, s₂ = { s with heap := h', toks := tk } ∧
          SetRK knd kf h' s.heap.objs.size ks items.size ∧
          (∀ b o, b < s.heap.objs.size → s.heap.get? b = some o → h'.get? b = some o)) E) PySem.F.called_set.init.plain PySem.F.entry_set_init (check_set_init_1 hT ?_)) fun r₂ s₂ hr₂ => ?_
      · obtain ⟨ol, hol, hcl, nl, hdl⟩ := hl
        obtain ⟨ocls, odict, odata, oslots⟩ := ol
        simp only at hcl hdl
        subst hcl; subst hdl
        have hol' : (s.heap.push (newSet w)).get? l = some { cls := .type "list", dict := odict, data := .seq items nl, slots := oslots } := Heap.get?_push_of_some _ hol
        have hsls := PySem.F.sub_list_set
        have hslf := PySem.F.sub_list_frozenset
        have hne : (Value.type "list" == Value.type "dict") = false := by decide
        have hl1 : (s.heap.push (newSet w)).IsList l items := ⟨_, hol', rfl, nl, rfl⟩
        unfold Builtin.«set.__init__» noKeywords Builtin.Frozenset.updateFrom
        generalize hPI : pyIter = PI
        wp_walk
        subst hPI
        refine wpAny_pyIter_list hl1 ?_
        refine wpAny_bind (wpAny_runValue ?_)
        have hlS : l < s.heap.objs.size := Heap.lt_size hol
        have hh3 : A.in1.in1.in1.handled = none := by simp [hh]
        have hneI : l ≠ (s.heap.push (newSet w)).objs.size := by
          rw [Heap.size_push]; exact Nat.ne_of_lt (Nat.lt_succ_of_lt hlS)
        have hSf : s.heap.objs.size ∉ [(s.heap.push (newSet w)).objs.size, l] := by
          rw [Heap.size_push]; simp only [List.mem_cons, List.mem_singleton, List.not_mem_nil, or_false, not_or]
          exact ⟨Nat.ne_of_lt (Nat.lt_succ_self _), Nat.ne_of_gt hlS⟩
        refine sk_loop (knd := knd) (kf := kf) ((Walks.list hh3 _ l hneI items).toS) s.heap.objs.size
          hSf ks hkl hval hb (items.size - 0) 0 _ (by omega) (Nat.zero_le _)
          ⟨⟨_, Heap.get?_push_size _ rfl, rfl, rfl⟩, (hl1.push _)⟩ ?hS0 ?hR
        case hS0 =>
          exact (sk_fresh (knd := knd) (kf := kf) (h := s.heap)).at fun o e => Heap.get?_push_of_some _ e
        case hR =>
          intro s' hm hS'
          obtain ⟨h', g', d', tk', os'⟩ := s'
          have eg : g' = s.gens := hm.gens
          have ed : d' = s.drawn := hm.drawn
          have eo : os' = s.os := hm.os
          subst eg; subst ed; subst eo
          show wpAny _ _ _ _ _ _
          refine wpAny_pure ?_
          show wpAny _ _ (ret Value.none) _ _ _
          refine wpAny_pure ⟨rfl, h', tk', rfl, hS', fun b o hb e => ?_⟩
          have hb1 : b ≠ s.heap.objs.size := Nat.ne_of_lt hb
          have hb2 : b ≠ (s.heap.push (newSet w)).objs.size := by
            rw [Heap.size_push]; exact Nat.ne_of_lt (Nat.lt_succ_of_lt hb)
          exact hm.heap b o (by simp only [List.mem_cons, List.mem_singleton, List.not_mem_nil, or_false, not_or]; exact ⟨hb1, hb2⟩) (Heap.get?_push_of_some _ (Heap.get?_push_of_some _ e))
      · cases r₂ with
        | error e => exact hr₂
        | ok fl₂ =>
          cases fl₂ with
          | ret r =>
            obtain ⟨rfl, h', tk, rfl, hS', hk'⟩ := hr₂
            repeat (any_goals (first | assumption | wp_step))
            exact h _ _ hS' hk'
          | _ => exact hr₂.elim
    | _ => exact hr.elim
end
end DV
end

section
namespace DV
open PySem PySem.Spec PyProof.Rows L2
def AtomV (v : Value) (d : D) : Prop := match d with
  | .int k => ∃ tk, v = .int k tk
  | .str x => ∃ tk, v = .str x tk
  | _ => False
theorem atom_reads {h : Heap} {v : Value} {d : D} (a : AtomV v d) : Reads h v d [] := by
  cases d with
  | int k =>
    obtain ⟨tk, rfl⟩ := a
    exact .int _ _
  | str x =>
    obtain ⟨tk, rfl⟩ := a
    exact .str _ _
  | _ => exact a.elim
theorem each_atoms {K : Type} (f : K → D) (g : Value → K) : ∀ vs : List Value, (∀ v ∈ vs, AtomV v (f (g v))) → W.EachIs AtomV vs ((vs.map g).map f)
  | [], _ => .nil
  | v :: vs, h => .cons (h v List.mem_cons_self) (each_atoms f g vs fun u hu => h u (List.mem_cons_of_mem _ hu))
section
variable {P : Program} {w : World} {K : Type} [DecidableEq K] {knd : KeyKind P w K} {kf : Value → K} {A : Around} {E : Value → Shared → Prop} {s : Shared} {a : Addr} {ks : List K} {n : Nat}
theorem sk_sorted {emb : K → D} {Q : Value → Shared → Prop} (R : SetRK knd kf s.heap a ks n) (hh : A.handled = none) (hem : ∀ v k, knd.is k v = true → AtomV v (emb k)) (hal : ∀ ls : List K, W.AllAlike (ls.map emb)) (hso : ∀ ls : List K, W.Sortable (ls.map emb)) (hu : A.units + 100 < cLine) (hd : ∀ k, (emb k).depth = 0)
    (hQ : ∀ s' p (out : List Value) (c : Nat) (ls : List K), (∀ b o, s.heap.get? b = some o → s'.heap.get? b = some o) → s'.gens = s.gens → s'.os = s.os → s.heap.objs.size ≤ p →
      s'.heap.get? p = some (seqObj "list" out.toArray c) → out.length ≤ sizeLine → W.EachIs AtomV out (sortD (ls.map emb)) → ls.Nodup → (∀ k, k ∈ ls ↔ k ∈ ks) → Q (.ref p) s') :
    wpAny (model P w) A (call (.builtin "sorted") [.ref a]) Q E s := by
  obtain ⟨o, es, ep, t, ho, hex, hdt, g, nd, hm, hb, hf, hn, hr, hl⟩ := R
  refine Calls.call_function_entry kind_sorted plain_sorted entry_sorted (args_sorted1 _) ?_
  unfold Builtin.«sorted»
  refine wpAny_bind (m := checkCount "sorted" 1 1 _) (wpAny_pure ?_)
  refine wpAny_bind (collect_set (A := A.in1) hh ⟨o, ho, hex.1, hdt⟩ hf hb hr hl fun s1 vs k1 hz g1 o1 pm => ?_)
  have hvl : vs.length = es.size := by rw [pm.length_eq, List.length_map, Array.length_toList]
  have hvz : vs.length ≤ sizeLine := by rw [hvl]; exact fits_of_scanBound hb
  have pk : (vs.map kf).Perm (es.toList.map (kOf kf)) := by
    have q := pm.map kf
    rw [List.map_map] at q
    exact q
  have ea : W.EachIs AtomV vs ((vs.map kf).map emb) := each_atoms emb kf vs fun v hv => by
    obtain ⟨e, he, rfl⟩ := List.mem_map.mp (pm.mem_iff.mp hv)
    exact hem _ _ (g e he).1
  refine wpAny_bind (wpAny_newList ?_ hvz)
  have hoL : (s1.heap.push (seqObj "list" vs.toArray 0)).get? s1.heap.objs.size = some (seqObj "list" vs.toArray 0) := Heap.get?_push_size _ rfl
  refine wpAny_bind (wpAny_holding (W.list_sort_data (enc := id) (bs := (vs.map kf).map emb) (R := AtomV) hoL ea (ea.mono fun v d q => ⟨[], atom_reads q, List.not_mem_nil⟩)
    (by rw [List.map_id]; exact hal _) (by rw [List.map_id]; exact hso _) (by rw [List.length_map, List.length_map]; exact hvz) (fun b hb' => ?_) fun out hol he => ?_))
  · obtain ⟨k, _, rfl⟩ := List.mem_map.mp hb'
    have := hd k
    show A.units + 1 + 1 + (emb k).depth < cLine
    omega
  obtain ⟨c, hc⟩ := sortedHeap_at (vs := vs) (out := out.toArray) hoL
  refine wpAny_pure ⟨_, rfl, hQ _ s1.heap.objs.size out c (vs.map kf) (fun b u e => ?_) g1 o1 hz hc (by rw [hol, List.length_map, List.length_map]; exact hvz) he (pk.nodup_iff.mpr nd) (fun k => by rw [pk.mem_iff, ← hm k])⟩
  have q := k1 b u e
  have hlt := Heap.lt_size q
  show (sortedHeap (s1.heap.push (seqObj "list" vs.toArray 0)) s1.heap.objs.size vs out.toArray).get? b = some u
  rw [sortedHeap_old (Nat.ne_of_lt hlt) (by rw [size_push']; exact Nat.lt_succ_of_lt hlt)]
  exact Heap.get?_push_of_some _ q
end
end DV
end

section
/-! sorted(set(xs)) -/
namespace DV
open PySem PySem.Spec PyProof.Rows L2
section
variable {α : Type} [DecidableEq α]
theorem mem_ddL : ∀ {l : List α} {x : α}, x ∈ ddL l ↔ x ∈ l
  | [], x => Iff.rfl
  | y :: l, x => by
    unfold ddL
    split
    · rename_i h
      rw [mem_ddL, List.mem_cons]
      exact ⟨.inr, fun q => q.elim (fun e => e ▸ h) id⟩
    · rw [List.mem_cons, List.mem_cons, mem_ddL]
theorem nodup_ddL : ∀ l : List α, (ddL l).Nodup
  | [] => List.Pairwise.nil
  | y :: l => by
    unfold ddL
    split
    · exact nodup_ddL l
    · rename_i h
      exact List.nodup_cons.mpr ⟨fun q => h (mem_ddL.mp q), nodup_ddL l⟩
end
theorem strict_eq {α : Type} {lt : α → α → Bool} (irr : ∀ a, lt a a = false) (tr : ∀ a b c, lt a b = true → lt b c = true → lt a c = true) : ∀ l m : List α, l.Pairwise (fun a b => lt a b = true) → m.Pairwise (fun a b => lt a b = true) → (∀ x, x ∈ l ↔ x ∈ m) → l = m
  | [], [], _, _, _ => rfl
  | [], y :: m, _, _, h => by cases (h y).mpr List.mem_cons_self
  | x :: l, [], _, _, h => by cases (h x).mp List.mem_cons_self
  | x :: l, y :: m, h1, h2, h => by
    obtain ⟨a1, a2⟩ := List.pairwise_cons.mp h1
    obtain ⟨b1, b2⟩ := List.pairwise_cons.mp h2
    have no : ∀ {a b}, lt a b = true → lt b a = true → False := fun {a b} p q => by
      have := tr _ _ _ p q
      rw [irr] at this
      cases this
    have e : x = y := by
      rcases List.mem_cons.mp ((h x).mp List.mem_cons_self) with e | e
      · exact e
      · rcases List.mem_cons.mp ((h y).mpr List.mem_cons_self) with e2 | e2
        · exact e2.symm
        · exact (no (b1 _ e) (a1 _ e2)).elim
    subst e
    rw [strict_eq irr tr l m a2 b2 fun z => ?_]
    constructor
    · intro hz
      rcases List.mem_cons.mp ((h z).mp (List.mem_cons_of_mem _ hz)) with e | e
      · subst e
        have := a1 _ hz
        rw [irr] at this
        cases this
      · exact e
    · intro hz
      rcases List.mem_cons.mp ((h z).mpr (List.mem_cons_of_mem _ hz)) with e | e
      · subst e
        have := b1 _ hz
        rw [irr] at this
        cases this
      · exact e
section
variable {α : Type} {emb : α → D} {lt : α → α → Bool}
theorem sort_strict (dlt : ∀ a b, W.dataLt (emb a) (emb b) = lt a b) (irr : ∀ a, lt a a = false) (tri : ∀ a b, lt a b = false → lt b a = false → a = b) (tr : ∀ a b c, lt a b = true → lt b c = true → lt a c = true) {l : List α} (nd : l.Nodup) :
    ∃ m : List α, sortD (l.map emb) = m.map emb ∧ m.Perm l ∧ m.Pairwise fun a b => lt a b = true := by
  refine ⟨l.mergeSort fun a b => !lt b a, ?_, List.mergeSort_perm _ _, ?_⟩
  · unfold sortD
    rw [List.map_mergeSort]
    intro a _ b _
    rw [dlt]
  · have no : ∀ {a b}, lt a b = true → lt b a = true → False := fun {a b} p q => by
      have := tr _ _ _ p q
      rw [irr] at this
      cases this
    have p1 : (l.mergeSort fun a b => !lt b a).Pairwise fun a b => (!lt b a) = true := by
      refine List.pairwise_mergeSort (fun a b c h1 h2 => ?_) (fun a b => ?_) l
      · rw [Bool.not_eq_true'] at h1 h2 ⊢
        cases hca : lt c a with
        | false => rfl
        | true =>
          cases hab : lt a b with
          | true =>
            rw [tr _ _ _ hca hab] at h2
            cases h2
          | false =>
            rw [tri _ _ hab h1] at hca
            rw [hca] at h2
            cases h2
      · cases h1 : lt b a with
        | false => rfl
        | true =>
          cases h2 : lt a b with
          | false => rfl
          | true => exact (no h1 h2).elim
    have p2 : (l.mergeSort fun a b => !lt b a).Pairwise (· ≠ ·) := (List.mergeSort_perm l _).nodup_iff.mpr nd
    refine (p1.and p2).imp fun {a b} h => ?_
    cases hab : lt a b with
    | true => rfl
    | false =>
      have := h.1
      rw [Bool.not_eq_true'] at this
      exact absurd (tri _ _ hab this) h.2
theorem sort_same (dlt : ∀ a b, W.dataLt (emb a) (emb b) = lt a b) (irr : ∀ a, lt a a = false) (tri : ∀ a b, lt a b = false → lt b a = false → a = b) (tr : ∀ a b c, lt a b = true → lt b c = true → lt a c = true) {l m : List α} (nl : l.Nodup) (nm : m.Nodup) (h : ∀ x, x ∈ l ↔ x ∈ m) : sortD (l.map emb) = sortD (m.map emb) := by
  obtain ⟨a, e1, p1, q1⟩ := sort_strict dlt irr tri tr nl
  obtain ⟨b, e2, p2, q2⟩ := sort_strict dlt irr tri tr nm
  rw [e1, e2, strict_eq irr tr a b q1 q2 fun x => by rw [p1.mem_iff, p2.mem_iff, h]]
end
theorem cps_eq {a b : Str} (h : a.cps.toList = b.cps.toList) : a = b := by
  cases a with
  | mk x =>
    cases b with
    | mk y =>
      congr 1
      exact Array.toList_inj.mp h
theorem sort_ints {l m : List Int} (nl : l.Nodup) (nm : m.Nodup) (h : ∀ x, x ∈ l ↔ x ∈ m) : sortD (l.map .int) = sortD (m.map .int) :=
  sort_same (lt := fun a b => decide (a < b)) (fun a b => W.dataLt_int a b) (fun a => by simp) (fun a b h1 h2 => by
    have := of_decide_eq_false h1
    have := of_decide_eq_false h2
    omega) (fun a b c h1 h2 => by
    have := of_decide_eq_true h1
    have := of_decide_eq_true h2
    exact decide_eq_true (by omega)) nl nm h
theorem natlist_tri : ∀ {a b : List Nat}, ¬ a < b → ¬ b < a → a = b
  | [], [], _, _ => rfl
  | [], y :: b, h, _ => absurd (List.nil_lt_cons y b) h
  | x :: a, [], _, h => absurd (List.nil_lt_cons x a) h
  | x :: a, y :: b, h1, h2 => by
    rw [List.cons_lt_cons_iff] at h1 h2
    have e : x = y := by
      rcases Nat.lt_trichotomy x y with c | c | c
      · exact absurd (.inl c) h1
      · exact c
      · exact absurd (.inl c) h2
    subst e
    rw [natlist_tri (fun q => h1 (.inr ⟨rfl, q⟩)) (fun q => h2 (.inr ⟨rfl, q⟩))]
theorem sort_strs {l m : List Str} (nl : l.Nodup) (nm : m.Nodup) (h : ∀ x, x ∈ l ↔ x ∈ m) : sortD (l.map .str) = sortD (m.map .str) :=
  sort_same (lt := fun a b => decide (a.cps.toList < b.cps.toList)) (fun a b => W.dataLt_str a b) (fun a => decide_eq_false (List.lt_irrefl _)) (fun a b h1 h2 => cps_eq (natlist_tri (of_decide_eq_false h1) (of_decide_eq_false h2)))
    (fun a b c h1 h2 => decide_eq_true (List.lt_trans (of_decide_eq_true h1) (of_decide_eq_true h2))) nl nm h
section
variable {X : Cx} {C : Call}
theorem vals_ints : ∀ {ns : List Int} {us : List Value}, Vals (ns.map V.int) us → ∀ (i : Nat) (v : Value), us[i]? = some v → ∃ k t, ns[i]? = some k ∧ v = .int k t
  | n :: ns, _, .cons r t, 0, v, e => by
    obtain ⟨tk, rfl⟩ := r
    cases e
    exact ⟨n, tk, rfl, rfl⟩
  | n :: ns, _, .cons r t, i + 1, v, e => vals_ints t i v e
  | [], _, .nil, i, v, e => by cases e
theorem vals_strs : ∀ {ns : List Str} {us : List Value}, Vals (ns.map V.str) us → ∀ (i : Nat) (v : Value), us[i]? = some v → ∃ k t, ns[i]? = some k ∧ v = .str k t
  | n :: ns, _, .cons r t, 0, v, e => by
    obtain ⟨tk, rfl⟩ := r
    cases e
    exact ⟨n, tk, rfl, rfl⟩
  | n :: ns, _, .cons r t, i + 1, v, e => vals_strs t i v e
  | [], _, .nil, i, v, e => by cases e
def strOf : Value → Str
  | .str x _ => x
  | _ => ⟨#[]⟩
def intOf : Value → Int
  | .int x _ => x
  | _ => 0
theorem atoms_den {K : PySem.W.Frag} {w : World} {P : Addr → Prop} {H : Hp} : ∀ {out : List Value} {ds : List D}, W.EachIs AtomV out ds → (∀ x, PyData.str x ∈ ds → x.length ≤ sizeLine) → ∃ zs, Vals zs out ∧ DenL K w P H zs ds
  | _, _, .nil, _ => ⟨[], .nil, .nil⟩
  | v :: _, d :: _, .cons h t, hl => by
    obtain ⟨zs, h1, h2⟩ := atoms_den (K := K) (w := w) (P := P) (H := H) t fun x hx => hl x (List.mem_cons_of_mem _ hx)
    cases d with
    | int k =>
      obtain ⟨tk, rfl⟩ := h
      exact ⟨.int k :: zs, .cons ⟨tk, rfl⟩ h1, .cons (.int k) h2⟩
    | str x =>
      obtain ⟨tk, rfl⟩ := h
      exact ⟨.str x :: zs, .cons ⟨tk, rfl⟩ h1, .cons (.str x (hl x List.mem_cons_self)) h2⟩
    | _ => exact h.elim
theorem den_len {K : PySem.W.Frag} {w : World} {P : Addr → Prop} {H : Hp} : ∀ {ss : List Str} {vs : List V}, DenL K w P H vs (ss.map .str) → ∀ x ∈ ss, x.length ≤ sizeLine
  | [], _, _, x, hx => by cases hx
  | s :: ss, _, h, x, hx => by
    cases h with
    | cons h1 h2 =>
      rcases List.mem_cons.mp hx with rfl | hx
      · cases h1 with
        | str _ q => exact q
      · exact den_len h2 x hx
theorem s_sset (hc : X.calm = true) (hu : X.A.units + 100 < cLine) {a : IE} {x : Expr} {p q pos pos2 : Pos} (hx : PE X x (oR X.K X.w C a)) (ns : starB x = false) (hg : Gl X "sorted") (hm : X.mg "sorted" = none) (hg2 : Gl X "set") (hm2 : X.mg "set" = none) :
    PE X (.Call (.Name "sorted" p) [.Call (.Name "set" q) [x] [] pos2] [] pos) (tE X.K X.w C (.prim .sortedSet (.cons a .nil))) := by
  refine ⟨fun pins s σ H Q I h => ?_⟩
  obtain ⟨Z, ρ, d, ρ', r, e, hQ⟩ := h
  obtain ⟨ds, e1, e2⟩ := prim_some e
  have h' : oR X.K X.w C a σ H (fun v H1 => ∃ P dx, PIn P H1 ∧ DenT X.K X.w P H1 v dx ∧ primF .sortedSet [dx] = some d ∧ Aft X.K X.w P H1 true d Q) :=
    ops1_ok r e1 fun x H' dx ed g r' h1 => ⟨PP Z ρ' σ, dx, fun a q => r'.pp q, h1, by subst ed; exact e2, aft_of r' g hQ⟩
  refine Call_ (ld_blt I hg hm boot_sorted ?_)
  refine PyProof.Rows.callWith_builtin1 (PyProof.Rows.args_cons ?_ rfl) rfl rfl
  refine Call_ (ld_blt I hg2 hm2 PyProof.Rows.boot_set ?_)
  have na : starEach [x] X.env = (false, eval x X.env) :: starEach [] X.env := star_cons ns
  refine PyProof.Rows.callWith_type1 (PyProof.Rows.args_cons (thn (hx.run pins s σ H _ I h') fun v s1 ⟨x, H1, I1, r1, q1⟩ => PyProof.Rows.args_nil ?_) na) na rfl
  obtain ⟨P, dx, hP, hd, hf, qa⟩ := q1
  match dx, hf with
  | .list xs, hf =>
    obtain ⟨b, ws, rfl, rd, l⟩ := hd.list
    cases r1
    obtain ⟨its, rv, pl, hz⟩ := I1.list (.inl rd)
    have n1 := rv.length
    have n2 := l.length
    have hf : (if 4000 < xs.length then none else match intsOf xs with
      | some ns => some (PyData.list (sortD ((ddL ns).map .int)))
      | none => match strsOf xs with
        | some ss => some (PyData.list (sortD ((ddL ss).map .str)))
        | none => none) = some d := hf
    have hlen : ¬ 4000 < xs.length := fun q => by rw [if_pos q] at hf; cases hf
    rw [if_neg hlen] at hf
    have hroom : its.toArray.size + 1 < scanBound := by
      rw [List.size_toArray]
      show its.length + 1 < 4096
      omega
    -- behind both calls
    have fin : ∀ {K : Type} (emb : K → D) (s' : Shared) (h' : Heap) (tk : Nat) (pp : Addr) (out : List Value) (c : Nat) (ls : List K), (∀ b o, b < s1.heap.objs.size → s1.heap.get? b = some o → h'.get? b = some o) →
        (∀ b o, h'.get? b = some o → s'.heap.get? b = some o) → s'.gens = s1.gens → s'.os = s1.os → h'.objs.size ≤ pp → s'.heap.get? pp = some (seqObj "list" out.toArray c) → out.length ≤ sizeLine →
        W.EachIs AtomV out (sortD (ls.map emb)) → d = .list (sortD (ls.map emb)) → (∀ x, PyData.str x ∈ sortD (ls.map emb) → x.length ≤ sizeLine) → EP X pins σ Q (.ref pp) s' := by
      intro K emb s' h' tk pp out c ls hk k g o hz2 hg hol he ed hsl
      have I2 : Inv X pins σ H1 { s1 with heap := h', toks := tk } := I1.kept fun b o e => hk b o (Heap.lt_size e) e
      have hn : H1 pp = none := I2.hok.fresh hz2
      obtain ⟨zs, v1, v2⟩ := atoms_den (K := X.K) (w := X.w) (P := P) (H := H1) he hsl
      have hzl : zs.length ≤ sizeLine := by rw [v1.length]; exact hol
      have J : Inv X pins σ (upd H1 pp (.lst zs)) { ({ s1 with heap := h', toks := tk } : Shared) with heap := s'.heap, gens := s'.gens, drawn := s'.drawn, toks := s'.toks } :=
        I2.call (ch := []) (Un.laid k hz2 hn) (I2.hok.laid k hz2 ⟨hzl, out, c, v1, hg⟩) (by rw [g]; exact I2.bare) (fun _ z => nomatch z)
      have es : s' = { s1 with heap := s'.heap, gens := s'.gens, drawn := s'.drawn, toks := s'.toks } := by
        cases s'
        cases s1
        cases o
        rfl
      rw [es]
      subst ed
      exact ⟨.ref pp, _, J, rfl, qa.list hP hn v2⟩
    cases hi : intsOf xs with
    | some ns =>
      rw [hi] at hf
      have hdd : PyData.list (sortD ((ddL ns).map .int)) = d := Option.some.inj hf
      have ex := ints_map hi
      subst ex
      have ev := den_ints l
      subst ev
      refine sk_set_list (knd := intKind X.prog X.w) (kf := intOf) (ks := ns) (I1.ok.hd hc) pl.isList (by rw [List.size_toArray]; rw [List.length_map] at n1; exact n1) (fun i v hv => ?_) hroom fun h' tk hS hk => ?_
      · obtain ⟨k, t, e1, rfl⟩ := vals_ints rv i v (by simpa using hv)
        exact ⟨k, e1, intKind_is _ _ _ _, rfl, rfl⟩
      · refine PyProof.Rows.args_nil ?_
        refine sk_sorted (s := { s1 with heap := h', toks := tk }) (knd := intKind X.prog X.w) (kf := intOf) (emb := PyData.int) hS (I1.ok.hd hc) (fun v k hv => ?_) (fun ls => ?_) (fun ls => ?_) hu (fun k => rfl) fun s' pp out c ls k g o hz2 hg hol he nd hm => ?_
        · cases v with
          | int j t =>
            have : ((j == k) = true) := hv
            rw [beq_iff_eq] at this
            subst this
            exact ⟨t, rfl⟩
          | _ => cases hv
        · intro a ha b hb
          obtain ⟨i, _, rfl⟩ := List.mem_map.mp ha
          obtain ⟨j, _, rfl⟩ := List.mem_map.mp hb
          rfl
        · refine .inr fun d hd => ?_
          obtain ⟨i, _, rfl⟩ := List.mem_map.mp hd
          exact ⟨(fun e => nomatch e), (fun xs e => nomatch e)⟩
        · refine fin PyData.int s' h' tk pp out c ls hk k g o hz2 hg hol he (hdd.symm.trans ?_) (fun x hx => ?_)
          · rw [sort_ints (nodup_ddL ns) nd fun x => by rw [mem_ddL, hm]]
          · have := (List.mergeSort_perm (ls.map PyData.int) _).mem_iff.mp hx
            obtain ⟨i, _, e⟩ := List.mem_map.mp this
            cases e
    | none =>
      rw [hi] at hf
      cases hs : strsOf xs with
      | none =>
        have hf : (match strsOf xs with
          | some ss => some (PyData.list (sortD ((ddL ss).map .str)))
          | none => none) = some d := hf
        rw [hs] at hf
        cases hf
      | some ss =>
        have hf : (match strsOf xs with
          | some ss => some (PyData.list (sortD ((ddL ss).map .str)))
          | none => none) = some d := hf
        rw [hs] at hf
        have hdd : PyData.list (sortD ((ddL ss).map .str)) = d := Option.some.inj hf
        have ex := strs_map hs
        subst ex
        have ev := den_strs l
        subst ev
        have hsz := den_len l
        refine sk_set_list (knd := strKind X.prog X.w) (kf := strOf) (ks := ss) (I1.ok.hd hc) pl.isList (by rw [List.size_toArray]; rw [List.length_map] at n1; exact n1) (fun i v hv => ?_) hroom fun h' tk hS hk => ?_
        · obtain ⟨k, t, e1, rfl⟩ := vals_strs rv i v (by simpa using hv)
          exact ⟨k, e1, by show Value.isStrOf k (.str k t) = true; simp [Value.isStrOf], rfl, rfl⟩
        · refine PyProof.Rows.args_nil ?_
          refine sk_sorted (s := { s1 with heap := h', toks := tk }) (knd := strKind X.prog X.w) (kf := strOf) (emb := PyData.str) hS (I1.ok.hd hc) (fun v k hv => ?_) (fun ls => ?_) (fun ls => ?_) hu (fun k => rfl) fun s' pp out c ls k g o hz2 hg hol he nd hm => ?_
          · have hv : Value.isStrOf k v = true := hv
            cases v with
            | str j t =>
              have : j = k := by simpa [Value.isStrOf] using hv
              subst this
              exact ⟨t, rfl⟩
            | _ => cases hv
          · intro a ha b hb
            obtain ⟨i, _, rfl⟩ := List.mem_map.mp ha
            obtain ⟨j, _, rfl⟩ := List.mem_map.mp hb
            rfl
          · refine .inr fun d hd => ?_
            obtain ⟨i, _, rfl⟩ := List.mem_map.mp hd
            exact ⟨(fun e => nomatch e), (fun xs e => nomatch e)⟩
          · refine fin PyData.str s' h' tk pp out c ls hk k g o hz2 hg hol he (hdd.symm.trans ?_) (fun x hx => ?_)
            · rw [sort_strs (nodup_ddL ss) nd fun x => by rw [mem_ddL, hm]]
            · have := (List.mergeSort_perm (ls.map PyData.str) _).mem_iff.mp hx
              obtain ⟨i, hi, e⟩ := List.mem_map.mp this
              cases e
              exact hsz _ ((hm _).mp hi)
end
end DV
end

section
/-! the setting; primitives, displays, tests -/
namespace DV
open PySem PySem.Spec PyProof.Rows L2

/-- what a check knows of a def: the slots' names, the in-out slots, the defs' names, the module's constants -/
structure Ck where
  N : List Str
  io : List Bool
  fns : List (Str × List Bool)
  glbs : List (Str × D)
/-- what a call of the f-th def does, by values -/
abbrev SpT := Nat → Sp
structure Amb (G : Ck) (S : SpT) (sc : Scope) (raw : Option Scope) (X : Cx) : Prop where
  calm : X.calm = true
  N : X.N = G.N
  nd : X.N.Nodup
  un : X.A.units + 100 < cLine
  sc : X.env.scope = sc
  blt : ∀ x ∈ bltNames, X.mg x = none
  fns : ∀ (f : Nat) (x : Str) (io : List Bool), G.fns[f]? = some (x, io) → ∃ (k : Nat) (a : Addr) (fd : FuncData) (ps : List Str), FnOk X.prog X.w X.K X.mg X.base CX0 k a fd ps (S f) ∧ Room k X.A ∧ X.mg x = some (.ref a) ∧ PySem.W.keepIn X.K (.ref a) = true ∧ Binds X.K fd ps []
  glb : ∀ p ∈ G.glbs, ∃ v u, X.mg p.1 = some u ∧ RelV v u ∧ ∀ P H, Den X.K X.w P H v p.2
  cel : ∀ x, (match raw with | none => true | some s => match s.names.lookup x with | some .cell => true | _ => false) = true → X.fn x = true
section
variable {X : Cx} {C : Call} {G : Ck} {S : SpT} {sc : Scope} {raw : Option Scope}
theorem prim_ok (M : Amb G S sc raw X) {p : Pr} {es : IEs} {x : Expr} {xs : List Expr} (h : primArgs sc p x = some xs) (hio : noIo es = true) (hx : OpsP X C es xs) : Good X C (.prim p es) x := by
  unfold primArgs at h
  split at h
  · split at h
    · rename_i e; subst e; cases h
      obtain ⟨a, b, rfl, h1, h2⟩ := hx.two
      exact .plain (s_bin h1 h2) rfl
    · cases h
  · split at h
    · rename_i e; obtain ⟨e, e2⟩ := e; subst e; cases h
      obtain ⟨a, b, rfl, h1, h2⟩ := hx.two
      exact g_cmp M.un h1 h2 (mark_of e2)
    · cases h
  · cases h
    obtain ⟨a, rfl, h1⟩ := hx.one
    exact .plain (s_neg h1) rfl
  · cases h
    obtain ⟨a, rfl, h1⟩ := hx.one
    exact s_isN h1
  · cases h
    obtain ⟨a, rfl, h1⟩ := hx.one
    exact s_notN h1
  · split at h
    · rename_i e; cases h
      obtain ⟨a, b, rfl, h1, h2⟩ := hx.two
      exact .plain (s_ix M.un h1 h2 (plainIx_of e)) rfl
    · cases h
  · obtain ⟨r, e, rfl⟩ := Option.map_eq_some_iff.mp h
    unfold slArgs at e
    split at e
    · cases e; obtain ⟨a, rfl, h1⟩ := hx.one; exact .plain (s_sl00 h1 hio) rfl
    · cases e; obtain ⟨a, b, rfl, h1, h2⟩ := hx.two; exact .plain (s_sl10 h1 h2 hio) rfl
    · cases e; obtain ⟨a, b, rfl, h1, h2⟩ := hx.two; exact .plain (s_sl01 h1 h2 hio) rfl
    · cases e; obtain ⟨a, b, c, rfl, h1, h2, h3⟩ := hx.three; exact .plain (s_sl11 h1 h2 h3 hio) rfl
    · cases e
  · obtain ⟨r, e, rfl⟩ := Option.map_eq_some_iff.mp h
    unfold slArgs at e
    split at e
    · cases e; obtain ⟨a, b, rfl, h1, h2⟩ := hx.two; exact .plain (s_st00 h1 h2 hio) rfl
    · cases e; obtain ⟨a, b, c, rfl, h1, h2, h3⟩ := hx.three; exact .plain (s_st10 h1 h2 h3 hio) rfl
    · cases e; obtain ⟨a, b, c, rfl, h1, h2, h3⟩ := hx.three; exact .plain (s_st01 h1 h2 h3 hio) rfl
    · cases e; obtain ⟨a, b, c, d, rfl, h1, h2, h3, h4⟩ := hx.four; exact .plain (s_st11 h1 h2 h3 h4 hio) rfl
    · cases e
  · split at h
    · rename_i e
      obtain ⟨rfl, rfl, g1, g2, ht, ns⟩ := e
      cases h
      obtain ⟨a, rfl, h1⟩ := hx.one
      exact .plain (s_isi ht h1 ns (glB_iff M.sc g1).1 (M.blt _ (by decide)) (glB_iff M.sc g2).1 (M.blt _ (isi_mem ht))) rfl
    · cases h
  · split at h
    · rename_i e
      obtain ⟨rfl, rfl, g1, g2, ns⟩ := e
      cases h
      obtain ⟨a, rfl, h1⟩ := hx.one
      exact .plain (s_sset M.calm M.un h1 ns (glB_iff M.sc g1).1 (M.blt _ (by decide)) (glB_iff M.sc g2).1 (M.blt _ (by decide))) rfl
    · cases h
  · split at h
    · rename_i e0
      split at h
      · rename_i e
        obtain ⟨rfl, hl, hne, g1, ns⟩ := e
        cases h
        exact .plain (s_blt M.calm M.un e0 (glB_iff M.sc g1).1 (glB_iff M.sc g1).2 (M.blt _ (blt_mem e0)) hx ns hne) rfl
      · cases h
    · cases h
  · split at h
    · rename_i e0
      split at h
      · rename_i e
        obtain ⟨rfl, hl, hb, hline, ns⟩ := e
        cases h
        exact .plain (s_met M.un e0 hl hb hline ns hio hx) rfl
      · cases h
    · cases h
  · cases h

/-! ### constants and names -/
def ckC : D → Const → Bool
  | .int i, .int j => decide (i = j)
  | .bool a, .bool b => decide (a = b)
  | .none, .none => true
  | .str x, .str y => decide (x = y) && decide (x.length ≤ sizeLine)
  | _, _ => false
theorem s_conV {d : D} {v : V} {e : Expr} (h : PE X e (tC v)) (hv : ∀ P H, Den X.K X.w P H v d) (f : isCont d = false) : PE X e (tE X.K X.w C (.con d)) := by
  refine h.weaken fun σ H Q q => ?_
  obtain ⟨Z, ρ, d', ρ', r, ev, hQ⟩ := q
  cases (show some (d, ρ) = some (d', ρ') from ev)
  exact hQ v H Go.refl (.flat (by rw [f, Bool.and_false]) r (hv _ _))
theorem s_con {d : D} {k : Const} {n : Nat} {pos : Pos} (h : ckC d k = true) : PE X (.Constant k n pos) (tE X.K X.w C (.con d)) := by
  unfold ckC at h
  split at h
  · have e := of_decide_eq_true h; subst e; exact s_conV pe_int (fun _ _ => .int _) rfl
  · have e := of_decide_eq_true h; subst e; exact s_conV pe_bl (fun _ _ => .bl _) rfl
  · exact s_conV pe_non (fun _ _ => .non) rfl
  · rw [Bool.and_eq_true] at h
    have e := of_decide_eq_true h.1; subst e; exact s_conV pe_str (fun _ _ => .str _ (of_decide_eq_true h.2)) rfl
  · cases h
mutual
def eqD : D → D → Bool
  | .none, .none => true
  | .bool a, .bool b => a == b
  | .int a, .int b => decide (a = b)
  | .str a, .str b => decide (a = b)
  | .list a, .list b => eqDs a b
  | .tuple a, .tuple b => eqDs a b
  | _, _ => false
def eqDs : List D → List D → Bool
  | [], [] => true
  | x :: xs, y :: ys => eqD x y && eqDs xs ys
  | _, _ => false
end
mutual
theorem eqD_eq : ∀ (a b : D), eqD a b = true → a = b
  | .none, .none, _ => rfl
  | .bool a, .bool b, h => by rw [show a = b from eq_of_beq h]
  | .int a, .int b, h => by rw [of_decide_eq_true (show decide (a = b) = true from h)]
  | .str a, .str b, h => by rw [of_decide_eq_true (show decide (a = b) = true from h)]
  | .list a, .list b, h => by rw [eqDs_eq a b h]
  | .tuple a, .tuple b, h => by rw [eqDs_eq a b h]
  | .none, .bool _, h => by cases h
  | .none, .int _, h => by cases h
  | .none, .str _, h => by cases h
  | .none, .list _, h => by cases h
  | .none, .tuple _, h => by cases h
  | .none, .dict _, h => by cases h
  | .bool _, .none, h => by cases h
  | .bool _, .int _, h => by cases h
  | .bool _, .str _, h => by cases h
  | .bool _, .list _, h => by cases h
  | .bool _, .tuple _, h => by cases h
  | .bool _, .dict _, h => by cases h
  | .int _, .none, h => by cases h
  | .int _, .bool _, h => by cases h
  | .int _, .str _, h => by cases h
  | .int _, .list _, h => by cases h
  | .int _, .tuple _, h => by cases h
  | .int _, .dict _, h => by cases h
  | .str _, .none, h => by cases h
  | .str _, .bool _, h => by cases h
  | .str _, .int _, h => by cases h
  | .str _, .list _, h => by cases h
  | .str _, .tuple _, h => by cases h
  | .str _, .dict _, h => by cases h
  | .list _, .none, h => by cases h
  | .list _, .bool _, h => by cases h
  | .list _, .int _, h => by cases h
  | .list _, .str _, h => by cases h
  | .list _, .tuple _, h => by cases h
  | .list _, .dict _, h => by cases h
  | .tuple _, .none, h => by cases h
  | .tuple _, .bool _, h => by cases h
  | .tuple _, .int _, h => by cases h
  | .tuple _, .str _, h => by cases h
  | .tuple _, .list _, h => by cases h
  | .tuple _, .dict _, h => by cases h
  | .dict _, _, h => by cases h
theorem eqDs_eq : ∀ (a b : List D), eqDs a b = true → a = b
  | [], [], _ => rfl
  | x :: xs, y :: ys, h => by
    have h : (eqD x y && eqDs xs ys) = true := h
    rw [Bool.and_eq_true] at h
    rw [eqD_eq x y h.1, eqDs_eq xs ys h.2]
  | [], _ :: _, h => by cases h
  | _ :: _, [], h => by cases h
end
def ckGlb (G : Ck) (x : Str) (c : D) : Bool := !isCont c && G.glbs.any fun p => decide (p.1 = x) && eqD p.2 c
theorem s_glb (M : Amb G S sc raw X) {x : Str} {c : D} {pos : Pos} (hg : glB sc x = true) (h : ckGlb G x c = true) : PE X (.Name x pos) (tE X.K X.w C (.glb c)) := by
  unfold ckGlb at h
  rw [Bool.and_eq_true, List.any_eq_true] at h
  obtain ⟨hc, p, hp, h⟩ := h
  rw [Bool.and_eq_true] at h
  obtain ⟨v, u, hm, r, hv⟩ := M.glb p hp
  rw [of_decide_eq_true h.1] at hm
  rw [eqD_eq _ _ h.2] at hv
  have q : PE X (.Name x pos) (tE X.K X.w C (.con c)) := s_conV (pe_glob (glB_iff M.sc hg).1 hm r (glB_iff M.sc hg).2) hv (by simpa using hc)
  exact q.weaken fun σ H Q z => by
    obtain ⟨Z, ρ, d, ρ', r, ev, hQ⟩ := z
    exact ⟨Z, ρ, d, ρ', r, ev, hQ⟩

/-! ### displays -/
def valOps : IEs → Bool
  | .nil => true
  | .cons (.own _) _ => false
  | .cons (.io _) _ => false
  | .cons _ es => valOps es
theorem OpsD.denL {K : PySem.W.Frag} {w : World} {ρ : Ro} {σ : L2.St} {P : Addr → Prop} {H : Hp} {es : IEs} {vs : List V} {ds : List D} (h : OpsD K w ρ σ P H es vs ds) (hv : valOps es = true) : DenL K w P H vs ds := by
  induction h with
  | nil => exact .nil
  | own _ _ _ _ _ => cases hv
  | io _ _ _ _ _ _ => cases hv
  | val h1 h2 d _ ih =>
    rename_i e v d' es vs ds _
    refine .cons d (ih ?_)
    cases e <;> first | exact hv | exact absurd rfl (h1 _) | exact absurd rfl (h2 _)
theorem s_tup {es : IEs} {xs : List Expr} {n : Nat} {pos : Pos} (hv : valOps es = true) (hx : OpsP X C es xs) (ns : nostar xs = true) (hl : xs.length ≤ sizeLine) : PE X (.Tuple xs n pos) (tE X.K X.w C (.tup es)) := by
  refine (pe_tup (hx.pa ns)).weaken fun σ H Q h => ?_
  obtain ⟨Z, ρ, d, ρ', r, e, hQ⟩ := h
  obtain ⟨⟨ds, ρ1⟩, e1, h⟩ := Option.map_eq_some_iff.mp (show (evOps C es ρ).map (fun p => (PyData.tuple p.1, p.2)) = some (d, ρ') from e)
  cases h
  refine ops_ok es r e1 fun vs H' g r' o => ?_
  have len : ∀ {es : IEs} {xs : List Expr} {ρ : Ro} {σ P H vs ds}, OpsP X C es xs → OpsD X.K X.w ρ σ P H es vs ds → vs.length = xs.length := by
    intro es xs ρ σ P H vs ds hx o
    induction o generalizing xs with
    | nil => cases xs with
      | nil => rfl
      | cons _ _ => exact hx.elim
    | own _ _ _ _ ih => cases xs with
      | nil => exact hx.elim
      | cons _ _ => exact congrArg (· + 1) (ih hx.2)
    | io _ _ _ _ _ ih => cases xs with
      | nil => exact hx.elim
      | cons _ _ => exact congrArg (· + 1) (ih hx.2)
    | val _ _ _ _ ih => cases xs with
      | nil => exact hx.elim
      | cons _ _ => exact congrArg (· + 1) (ih hx.2)
  refine ⟨by rw [len hx o]; exact hl, fun p n => ?_⟩
  have a : Aft X.K X.w (PP Z ρ1 σ) H' false (.tuple ds) Q := aft_of r' g hQ
  exact a.tuple (fun a q => r'.pp q) n (o.denL hv)
theorem s_lst {es : IEs} {xs : List Expr} {pos : Pos} (hv : valOps es = true) (hx : OpsP X C es xs) (ns : nostar xs = true) (hl : xs.length ≤ sizeLine) : PE X (.List xs pos) (tE X.K X.w C (.lst es)) := by
  refine (pe_lst (hx.pa ns)).weaken fun σ H Q h => ?_
  obtain ⟨Z, ρ, d, ρ', r, e, hQ⟩ := h
  obtain ⟨⟨ds, ρ1⟩, e1, h⟩ := Option.map_eq_some_iff.mp (show (evOps C es ρ).map (fun p => (PyData.list p.1, p.2)) = some (d, ρ') from e)
  cases h
  refine ops_ok es r e1 fun vs H' g r' o => ?_
  have len : ∀ {es : IEs} {xs : List Expr} {ρ : Ro} {σ P H vs ds}, OpsP X C es xs → OpsD X.K X.w ρ σ P H es vs ds → vs.length = xs.length := by
    intro es xs ρ σ P H vs ds hx o
    induction o generalizing xs with
    | nil => cases xs with
      | nil => rfl
      | cons _ _ => exact hx.elim
    | own _ _ _ _ ih => cases xs with
      | nil => exact hx.elim
      | cons _ _ => exact congrArg (· + 1) (ih hx.2)
    | io _ _ _ _ _ ih => cases xs with
      | nil => exact hx.elim
      | cons _ _ => exact congrArg (· + 1) (ih hx.2)
    | val _ _ _ _ ih => cases xs with
      | nil => exact hx.elim
      | cons _ _ => exact congrArg (· + 1) (ih hx.2)
  refine ⟨by rw [len hx o]; exact hl, fun p n => ?_⟩
  have a : Aft X.K X.w (PP Z ρ1 σ) H' true (.list ds) Q := aft_of r' g hQ
  exact a.list (fun a q => r'.pp q) n (o.denL hv)

/-! ### tests, and, or, not, if -/
theorem Out.den {K : PySem.W.Frag} {w : World} {Z : Addr → Prop} {ρ ρ0 : Ro} {σ : L2.St} {H H' : Hp} {fr : Bool} {v : V} {d : D} (r : Rel K w Z ρ0 σ H) (o : Out K w Z ρ σ H H' fr v d) : Rel K w Z ρ σ H' ∧ Den K w (PP Z ρ σ) H' v d := o.weak r.z
theorem Out.drop {K : PySem.W.Frag} {w : World} {Z : Addr → Prop} {ρ ρ0 : Ro} {σ : L2.St} {H H' : Hp} {fr : Bool} {v : V} {d : D} (r : Rel K w Z ρ0 σ H) (o : Out K w Z ρ σ H H' fr v d) : Out K w Z ρ σ H H' false v d := by
  obtain ⟨r', h⟩ := o.den r
  exact .flat rfl r' h
/-- from a later heap -/
theorem Out.pre {K : PySem.W.Frag} {w : World} {Z : Addr → Prop} {ρ : Ro} {σ : L2.St} {H0 H H' : Hp} {fr : Bool} {v : V} {d : D} {P P' : Addr → Prop} (g : Go P H0 P' H) (o : Out K w Z ρ σ H H' fr v d) : Out K w Z ρ σ H0 H' fr v d := by
  unfold Out at o ⊢
  by_cases c : (fr && isCont d) = true
  · rw [if_pos c] at o ⊢
    obtain ⟨a, e, n, q⟩ := o
    refine ⟨a, e, ?_, q⟩
    cases h : H0 a with
    | none => rfl
    | some u => exact absurd n (g.dom a (by rw [h]; simp))
  · rw [if_neg c] at o ⊢
    exact o
theorem evE_bool {f : Bool → Bool} {e : IE} {ρ : Ro} {d : D} {ρ' : Ro} (h : ((evE C e ρ).bind fun p => (truthF p.1).map fun k => (PyData.bool (f k), p.2)) = some (d, ρ')) : ∃ x ρ1 k, evE C e ρ = some (x, ρ1) ∧ truthF x = some k ∧ d = .bool (f k) ∧ ρ' = ρ1 := by
  obtain ⟨⟨x, ρ1⟩, e1, h⟩ := Option.bind_eq_some_iff.mp h
  obtain ⟨k, e2, h⟩ := Option.map_eq_some_iff.mp h
  cases h
  exact ⟨x, ρ1, k, e1, e2, rfl, rfl⟩
theorem s_not {e : IE} {x : Expr} {pos : Pos} (h : Good X C e x) : Good X C (.not e) (.UnaryOp .Not x pos) := by
  refine ⟨(pe_notT h.pe).weaken fun σ H Q q => ?_, (pt_not h.pt).weaken fun σ H Q q => ?_⟩
  · obtain ⟨Z, ρ, d, ρ', r, ev, hQ⟩ := q
    obtain ⟨x, ρ1, k, e1, e2, rfl, rfl⟩ := evE_bool (f := fun k => !k) ev
    refine ⟨Z, ρ, x, ρ', r, e1, fun v H' g o => ?_⟩
    obtain ⟨r', dv⟩ := o.den r
    exact ⟨k, tru_of (.inl dv) e2, hQ _ H' g (.flat rfl r' (.bl _))⟩
  · obtain ⟨Z, ρ, d, ρ', k0, r, ev, tr, hQ⟩ := q
    obtain ⟨x, ρ1, k, e1, e2, rfl, rfl⟩ := evE_bool (f := fun k => !k) ev
    cases (show some (!k) = some k0 from tr)
    exact ⟨Z, ρ, x, ρ', k, r, e1, e2, fun H' g r' => hQ H' g r'⟩
/-- the rest of an and, an or -/
def bool1 : Expr → Expr
  | .BoolOp _ [y] _ => y
  | x => x
theorem pw_of {o : BoolOp} {vs : List Expr} {p : Pos} {t : TT} (h : PT X (.BoolOp o vs p) t) : PW X (.BoolOp o vs p) t := ⟨fun whole pins s σ H Q I q => h.run pins s σ H Q I q⟩
theorem and_rest {e : IE} {y : Expr} {r : List Expr} {pos : Pos} (h : Good X C e (bool1 (.BoolOp .And (y :: r) pos))) : PE X (.BoolOp .And (y :: r) pos) (tE X.K X.w C e) ∧ PW X (.BoolOp .And (y :: r) pos) (tT X.K X.w C e) := by
  cases r with
  | nil => exact ⟨pe_one h.pe, pw_and1 h.pt⟩
  | cons z r => exact ⟨h.pe, pw_of h.pt⟩
theorem or_rest {e : IE} {y : Expr} {r : List Expr} {pos : Pos} (h : Good X C e (bool1 (.BoolOp .Or (y :: r) pos))) : PE X (.BoolOp .Or (y :: r) pos) (tE X.K X.w C e) ∧ PW X (.BoolOp .Or (y :: r) pos) (tT X.K X.w C e) := by
  cases r with
  | nil => exact ⟨pe_one h.pe, pw_or1 h.pt⟩
  | cons z r => exact ⟨h.pe, pw_of h.pt⟩
theorem s_and {a b : IE} {x y : Expr} {r : List Expr} {pos : Pos} (ha : Good X C a x) (hb : Good X C b (bool1 (.BoolOp .And (y :: r) pos))) : Good X C (.and a b) (.BoolOp .And (x :: y :: r) pos) := by
  obtain ⟨hb1, hb2⟩ := and_rest hb
  refine ⟨(pe_andT ha.pe hb1).weaken fun σ H Q q => ?_, (pw_and ha.pt hb2).pt.weaken fun σ H Q q => ?_⟩
  · obtain ⟨Z, ρ, d, ρ', r, ev, hQ⟩ := q
    obtain ⟨⟨x, ρ1⟩, e1, h⟩ := Option.bind_eq_some_iff.mp (show ((evE C a ρ).bind fun p => (truthF p.1).bind fun k => if k then evE C b p.2 else some p) = some (d, ρ') from ev)
    obtain ⟨k, e2, h⟩ := Option.bind_eq_some_iff.mp h
    refine ⟨Z, ρ, x, ρ1, r, e1, fun v H' g o => ?_⟩
    obtain ⟨r', dv⟩ := o.den r
    refine ⟨k, tru_of (.inl dv) e2, ?_⟩
    cases k with
    | true => exact ⟨Z, ρ1, d, ρ', r', h, fun v2 H2 g2 o2 => hQ v2 H2 (g.trans g2) (Out.flat rfl (o2.den r').1 (o2.den r').2)⟩
    | false =>
      cases (show some (x, ρ1) = some (d, ρ') from h)
      exact hQ v H' g (.flat rfl r' dv)
  · obtain ⟨Z, ρ, d, ρ', k0, r, ev, tr, hQ⟩ := q
    obtain ⟨⟨x, ρ1⟩, e1, h⟩ := Option.bind_eq_some_iff.mp (show ((evE C a ρ).bind fun p => (truthF p.1).bind fun k => if k then evE C b p.2 else some p) = some (d, ρ') from ev)
    obtain ⟨k, e2, h⟩ := Option.bind_eq_some_iff.mp h
    refine ⟨Z, ρ, x, ρ1, k, r, e1, e2, fun H' g r' => ?_⟩
    cases k with
    | true => exact ⟨Z, ρ1, d, ρ', k0, r', h, tr, fun H2 g2 r2 => hQ H2 (g.trans g2) r2⟩
    | false =>
      cases (show some (x, ρ1) = some (d, ρ') from h)
      rw [e2] at tr
      cases tr
      exact hQ H' g r'
theorem s_or {a b : IE} {x y : Expr} {r : List Expr} {pos : Pos} (ha : Good X C a x) (hb : Good X C b (bool1 (.BoolOp .Or (y :: r) pos))) : Good X C (.or a b) (.BoolOp .Or (x :: y :: r) pos) := by
  obtain ⟨hb1, hb2⟩ := or_rest hb
  refine ⟨(pe_orT ha.pe hb1).weaken fun σ H Q q => ?_, (pw_or ha.pt hb2).pt.weaken fun σ H Q q => ?_⟩
  · obtain ⟨Z, ρ, d, ρ', r, ev, hQ⟩ := q
    obtain ⟨⟨x, ρ1⟩, e1, h⟩ := Option.bind_eq_some_iff.mp (show ((evE C a ρ).bind fun p => (truthF p.1).bind fun k => if k then some p else evE C b p.2) = some (d, ρ') from ev)
    obtain ⟨k, e2, h⟩ := Option.bind_eq_some_iff.mp h
    refine ⟨Z, ρ, x, ρ1, r, e1, fun v H' g o => ?_⟩
    obtain ⟨r', dv⟩ := o.den r
    refine ⟨k, tru_of (.inl dv) e2, ?_⟩
    cases k with
    | false => exact ⟨Z, ρ1, d, ρ', r', h, fun v2 H2 g2 o2 => hQ v2 H2 (g.trans g2) (Out.flat rfl (o2.den r').1 (o2.den r').2)⟩
    | true =>
      cases (show some (x, ρ1) = some (d, ρ') from h)
      exact hQ v H' g (.flat rfl r' dv)
  · obtain ⟨Z, ρ, d, ρ', k0, r, ev, tr, hQ⟩ := q
    obtain ⟨⟨x, ρ1⟩, e1, h⟩ := Option.bind_eq_some_iff.mp (show ((evE C a ρ).bind fun p => (truthF p.1).bind fun k => if k then some p else evE C b p.2) = some (d, ρ') from ev)
    obtain ⟨k, e2, h⟩ := Option.bind_eq_some_iff.mp h
    refine ⟨Z, ρ, x, ρ1, k, r, e1, e2, fun H' g r' => ?_⟩
    cases k with
    | false => exact ⟨Z, ρ1, d, ρ', k0, r', h, tr, fun H2 g2 r2 => hQ H2 (g.trans g2) r2⟩
    | true =>
      cases (show some (x, ρ1) = some (d, ρ') from h)
      rw [e2] at tr
      cases tr
      exact hQ H' g r'
theorem Out.fewer {K : PySem.W.Frag} {w : World} {Z : Addr → Prop} {ρ ρ0 : Ro} {σ : L2.St} {H H' : Hp} {fr fr' : Bool} {v : V} {d : D} (r : Rel K w Z ρ0 σ H) (h : fr' = true → fr = true) (o : Out K w Z ρ σ H H' fr v d) : Out K w Z ρ σ H H' fr' v d := by
  cases fr' with
  | false => exact o.drop r
  | true => rw [h rfl] at o; exact o
theorem s_ife {c a b : IE} {x y z : Expr} {pos : Pos} (hc : Good X C c z) (ha : Good X C a x) (hb : Good X C b y) : PE X (.IfExp z x y pos) (tE X.K X.w C (.ife c a b)) := by
  refine (pe_ifExp hc.pt ha.pe hb.pe).weaken fun σ H Q q => ?_
  obtain ⟨Z, ρ, d, ρ', r, ev, hQ⟩ := q
  obtain ⟨⟨x, ρ1⟩, e1, h⟩ := Option.bind_eq_some_iff.mp (show ((evE C c ρ).bind fun p => (truthF p.1).bind fun k => if k then evE C a p.2 else evE C b p.2) = some (d, ρ') from ev)
  obtain ⟨k, e2, h⟩ := Option.bind_eq_some_iff.mp h
  have fr : freshE (.ife c a b) = (freshE a && freshE b) := rfl
  refine ⟨Z, ρ, x, ρ1, k, r, e1, e2, fun H' g r' => ?_⟩
  cases k with
  | true => exact ⟨Z, ρ1, d, ρ', r', h, fun v2 H2 g2 o2 => hQ v2 H2 (g.trans g2) ((o2.fewer r' (fun q => by rw [fr, Bool.and_eq_true] at q; exact q.1)).pre g)⟩
  | false => exact ⟨Z, ρ1, d, ρ', r', h, fun v2 H2 g2 o2 => hQ v2 H2 (g.trans g2) ((o2.fewer r' (fun q => by rw [fr, Bool.and_eq_true] at q; exact q.2)).pre g)⟩
theorem g_ife {c a b : IE} {x y z : Expr} {pos : Pos} (hc : Good X C c z) (ha : Good X C a x) (hb : Good X C b y) : Good X C (.ife c a b) (.IfExp z x y pos) := by
  refine ⟨s_ife hc ha hb, ⟨fun pins s σ H Q I q => ?_⟩⟩
  obtain ⟨Z, ρ, d, ρ', k0, r, ev, tr, hQ⟩ := q
  obtain ⟨⟨x1, ρ1⟩, e1, h⟩ := Option.bind_eq_some_iff.mp (show ((evE C c ρ).bind fun p => (truthF p.1).bind fun k => if k then evE C a p.2 else evE C b p.2) = some (d, ρ') from ev)
  obtain ⟨k, e2, h⟩ := Option.bind_eq_some_iff.mp h
  show wpAny _ _ (isTrue z X.env (eval z X.env) >>= fun t => if t = true then isTrue x X.env (eval x X.env) else isTrue y X.env (eval y X.env)) _ _ _
  refine wpAny_bind (thn (hc.pt.run pins s σ H (fun k1 H1 => k1 = k ∧ Go (Ow ρ σ) H (Ow ρ1 σ) H1 ∧ Rel X.K X.w Z ρ1 σ H1) I ⟨Z, ρ, x1, ρ1, k, r, e1, e2, fun H' g r' => ⟨rfl, g, r'⟩⟩) fun t s1 ⟨H1, I1, ek, g, r'⟩ => ?_)
  subst ek
  cases t with
  | true =>
    rw [if_pos rfl]
    exact ha.pt.run pins s1 σ H1 Q I1 ⟨Z, ρ1, d, ρ', k0, r', h, tr, fun H2 g2 r2 => hQ H2 (g.trans g2) r2⟩
  | false =>
    rw [if_neg Bool.false_ne_true]
    exact hb.pt.run pins s1 σ H1 Q I1 ⟨Z, ρ1, d, ρ', k0, r', h, tr, fun H2 g2 r2 => hQ H2 (g.trans g2) r2⟩
/-- a op b op c -/
theorem chain_key (hu : X.A.units + 100 < cLine) {a b c : IE} {o1 o2 : CmpOp} {σ : L2.St} {H : Hp} {Q : VK} (h : tE X.K X.w C (.chain o1 o2 a b c) σ H Q) :
    tChain (r2D X (cmpF o1) true) (r2D X (cmpF o2) true) (tE X.K X.w C a) (tE X.K X.w C b) (tE X.K X.w C c) σ H Q := by
  obtain ⟨Z, ρ, d, ρ', r, ev, hQ⟩ := h
  obtain ⟨⟨x, ρ1⟩, e1, h⟩ := Option.bind_eq_some_iff.mp (show ((evE C a ρ).bind fun p => (evE C b p.2).bind fun q => (cmpB o1 p.1 q.1).bind fun k => if k then (evE C c q.2).bind fun r => (cmpB o2 q.1 r.1).map fun k' => (PyData.bool k', r.2) else some (PyData.bool false, q.2)) = some (d, ρ') from ev)
  obtain ⟨⟨y, ρ2⟩, e2, h⟩ := Option.bind_eq_some_iff.mp h
  obtain ⟨k, e3, h⟩ := Option.bind_eq_some_iff.mp h
  refine ⟨Z, ρ, x, ρ1, r, e1, fun v1 H1 g1 o1' => ?_⟩
  obtain ⟨r1, d1⟩ := o1'.den r
  refine ⟨Z, ρ1, y, ρ2, r1, e2, fun v2 H2 g2 o2' => ?_⟩
  obtain ⟨r2, d2⟩ := o2'.den r1
  have d1' := d1.go (g2.pp (Z := Z) (Z' := Z) fun _ q => .inl q)
  refine ⟨PP Z ρ2 σ, x, y, .bool k, fun a q => r2.pp q, .inl d1', .inl d2, by show (cmpB o1 x y).map PyData.bool = _; rw [e3]; rfl, fun v3 H3 s3 q3 => ?_⟩
  rw [show (true && isCont (.bool k)) = false from rfl, if_neg Bool.false_ne_true] at q3
  have r3 := r2.same s3
  have g3 : Go (Ow ρ2 σ) H2 (Ow ρ2 σ) H3 := Go.same s3 fun _ q => .inl q
  cases q3
  refine ⟨k, rfl, ?_⟩
  cases k with
  | false =>
    rw [if_neg Bool.false_ne_true]
    cases (show some (PyData.bool false, ρ2) = some (d, ρ') from h)
    exact hQ _ H3 ((g1.trans g2).trans g3) (.flat rfl r3 (.bl false))
  | true =>
    rw [if_pos rfl]
    obtain ⟨⟨z, ρ3⟩, e4, h⟩ := Option.bind_eq_some_iff.mp (show ((evE C c ρ2).bind fun r => (cmpB o2 y r.1).map fun k' => (PyData.bool k', r.2)) = some (d, ρ') from h)
    obtain ⟨k', e5, h⟩ := Option.map_eq_some_iff.mp h
    cases h
    refine ⟨Z, ρ2, z, ρ3, r3, e4, fun v4 H4 g4 o4' => ?_⟩
    obtain ⟨r4, d4⟩ := o4'.den r3
    have d2' := (d2.go (g3.pp (Z := Z) (Z' := Z) fun _ q => .inl q)).go (g4.pp (Z := Z) (Z' := Z) fun _ q => .inl q)
    refine ⟨PP Z ρ3 σ, y, z, .bool k', fun a q => r4.pp q, .inl d2', .inl d4, by show (cmpB o2 y z).map PyData.bool = _; rw [e5]; rfl, fun v5 H5 s5 q5 => ?_⟩
    rw [show (true && isCont (.bool k')) = false from rfl, if_neg Bool.false_ne_true] at q5
    exact hQ v5 H5 ((((g1.trans g2).trans g3).trans g4).trans (Go.same s5 fun _ q => .inl q)) (.flat rfl (r4.same s5) q5)
theorem g_chain (hu : X.A.units + 100 < cLine) {a b c : IE} {x y z : Expr} {o1 o2 : CmpOp} {pos : Pos} (ha : Good X C a x) (hb : Good X C b y) (hc : Good X C c z) (hz : isSetD z = false) : Good X C (.chain o1 o2 a b c) (.Compare x [o1, o2] [y, z] pos) := by
  have hm : lastMarks [o1, o2] [y, z] = false := by
    show behindInMarks o2 z = false
    exact mark_of hz
  refine ⟨(pe_chain (op_cmpD hu o1) (op_cmpD hu o2) ha.pe hb.pe hc.pe hm).weaken fun σ H Q q => chain_key hu q, (pt_chain (op_cmpD hu o1) (op_cmpD hu o2) ha.pe hb.pe hc.pe hm).weaken fun σ H Q q => chain_key hu (tT_bool (fun ρ d ρ' e => ?_) q)⟩
  obtain ⟨p, e1, h⟩ := Option.bind_eq_some_iff.mp (show ((evE C a ρ).bind fun p => (evE C b p.2).bind fun q => (cmpB o1 p.1 q.1).bind fun k => if k then (evE C c q.2).bind fun r => (cmpB o2 q.1 r.1).map fun k' => (PyData.bool k', r.2) else some (PyData.bool false, q.2)) = some (d, ρ') from e)
  obtain ⟨q, e2, h⟩ := Option.bind_eq_some_iff.mp h
  obtain ⟨k, e3, h⟩ := Option.bind_eq_some_iff.mp h
  cases k with
  | false => cases h; exact ⟨_, rfl⟩
  | true =>
    obtain ⟨r, e4, h⟩ := Option.bind_eq_some_iff.mp (show ((evE C c q.2).bind fun r => (cmpB o2 q.1 r.1).map fun k' => (PyData.bool k', r.2)) = some (d, ρ') from h)
    obtain ⟨k', e5, h⟩ := Option.map_eq_some_iff.mp h
    cases h
    exact ⟨_, rfl⟩
end
end DV
end

section
/-! calls of the text's defs -/
namespace DV
open PySem PySem.Spec PyProof.Rows L2

def parSl : List Bool → List D → Ro
  | b :: bs, d :: ds => (if b then Sl.ow d else Sl.sh d) :: parSl bs ds
  | _, _ => []
def retSl : List Bool → List D → Ro
  | true :: bs, o :: os => .ow o :: retSl bs os
  | false :: bs, os => .no :: retSl bs os
  | _, _ => []
/-- a def's promise -/
def spOf (K : PySem.W.Frag) (w : World) (io : List Bool) (f : Nat) (C : Call) : Sp := fun vs H Q _ => ∃ (Z : Addr → Prop) (ds : List D) (r : D) (os : List D), vs.length = io.length ∧ ds.length = io.length ∧ Rel K w Z (parSl io ds) (vs.map some) H ∧ C f ds = some (r, os) ∧
  ∀ v H', os.length = (io.filter id).length → Go (Ow (parSl io ds) (vs.map some)) H (Ow (retSl io os) (vs.map some)) H' → Rel K w Z (retSl io os) (vs.map some) H' → Den K w (PP Z (retSl io os) (vs.map some)) H' v r → Q v H'

def ioL : IEs → List (Option Nat)
  | .nil => []
  | .cons (.io i) es => some i :: ioL es
  | .cons _ es => none :: ioL es
def ioF : IEs → List Bool
  | .nil => []
  | .cons (.io _) es => true :: ioF es
  | .cons _ es => false :: ioF es
def nvF : IEs → List Bool
  | .nil => []
  | .cons (.io _) es => true :: nvF es
  | .cons (.own _) es => true :: nvF es
  | .cons _ es => false :: nvF es
section
variable {K : PySem.W.Frag} {w : World}
/-- what stands at a place -/
inductive At (K : PySem.W.Frag) (w : World) (ρ : Ro) (σ : L2.St) (P : Addr → Prop) (H : Hp) : Option Nat → Bool → V → D → Prop
  | io {i : Nat} {a : Addr} {d : D} : σ[i]? = some (some (V.ref a)) → ρ[i]? = some (Sl.ow d) → P a → Cont K w P H a d → At K w ρ σ P H (some i) true (.ref a) d
  | own {v : V} {d : D} : DenT K w P H v d → At K w ρ σ P H none true v d
  | val {v : V} {d : D} : Den K w P H v d → At K w ρ σ P H none false v d
theorem OpsD.at {ρ : Ro} {σ : L2.St} {P : Addr → Prop} {H : Hp} {es : IEs} {vs : List V} {ds : List D} (h : OpsD K w ρ σ P H es vs ds) : ∀ (j : Nat) v, vs[j]? = some v → ∃ d o n, ds[j]? = some d ∧ (ioL es)[j]? = some o ∧ (nvF es)[j]? = some n ∧ (ioF es)[j]? = some o.isSome ∧ At K w ρ σ P H o n v d := by
  induction h with
  | nil => intro j v e; simp at e
  | own e0 _ h _ ih =>
    intro j v e
    cases j with
    | zero => cases (show some _ = some v from e); exact ⟨_, none, true, rfl, rfl, rfl, rfl, .own h⟩
    | succ j => exact ih j v e
  | io e0 e1 p c _ ih =>
    intro j v e
    cases j with
    | zero => cases (show some _ = some v from e); exact ⟨_, some _, true, rfl, rfl, rfl, rfl, .io e0 e1 p c⟩
    | succ j => exact ih j v e
  | val h1 h2 h _ ih =>
    rename_i e v0 d0 es vs ds o
    intro j v e'
    cases j with
    | zero =>
      cases (show some _ = some v from e')
      refine ⟨_, none, false, rfl, ?_, ?_, ?_, .val h⟩ <;> (cases e <;> first | rfl | exact absurd rfl (h1 _) | exact absurd rfl (h2 _))
    | succ j =>
      obtain ⟨d, o, n, q1, q2, q3, q4, q5⟩ := ih j v e'
      refine ⟨d, o, n, q1, ?_, ?_, ?_, q5⟩ <;> (cases e <;> first | exact q2 | exact q3 | exact q4 | exact absurd rfl (h1 _) | exact absurd rfl (h2 _))
theorem OpsD.len {ρ : Ro} {σ : L2.St} {P : Addr → Prop} {H : Hp} {es : IEs} {vs : List V} {ds : List D} (h : OpsD K w ρ σ P H es vs ds) : vs.length = (ioF es).length ∧ ds.length = (ioF es).length := by
  induction h with
  | nil => exact ⟨rfl, rfl⟩
  | own _ _ _ _ ih => exact ⟨congrArg (· + 1) ih.1, congrArg (· + 1) ih.2⟩
  | io _ _ _ _ _ ih => exact ⟨congrArg (· + 1) ih.1, congrArg (· + 1) ih.2⟩
  | val h1 h2 _ _ ih =>
    rename_i e v0 d0 es vs ds _ _
    cases e <;> first | exact ⟨congrArg (· + 1) ih.1, congrArg (· + 1) ih.2⟩ | exact absurd rfl (h1 _) | exact absurd rfl (h2 _)
theorem parSl_at : ∀ {io : List Bool} {ds : List D} {j : Nat} {x : Sl}, (parSl io ds)[j]? = some x → ∃ b d, io[j]? = some b ∧ ds[j]? = some d ∧ x = if b then Sl.ow d else Sl.sh d
  | [], ds, j, x, h => by cases ds <;> simp [parSl] at h
  | b :: bs, [], j, x, h => by simp [parSl] at h
  | b :: bs, d :: ds, 0, x, h => ⟨b, d, rfl, rfl, (Option.some.inj (show some _ = some x from h)).symm⟩
  | b :: bs, d :: ds, j + 1, x, h => parSl_at (io := bs) (ds := ds) (j := j) h
theorem parSl_len : ∀ {io : List Bool} {ds : List D}, ds.length = io.length → (parSl io ds).length = io.length
  | [], [], _ => rfl
  | b :: bs, d :: ds, h => congrArg (· + 1) (parSl_len (io := bs) (ds := ds) (Nat.succ.inj h))
  | [], _ :: _, h => by cases h
  | _ :: _, [], h => by cases h
/-- the in-out arguments by their places -/
theorem ret_at : ∀ {es : IEs} {os : List D} {j : Nat} {d : D}, (retSl (ioF es) os)[j]? = some (Sl.ow d) → ∃ i k : Nat, (ioL es)[j]? = some (some i) ∧ (ioS es)[k]? = some i ∧ os[k]? = some d
  | .nil, os, j, d, h => by cases os <;> simp [ioF, retSl] at h
  | .cons e es, os, j, d, h => by
    have plain : (ioF (.cons e es) = false :: ioF es) → (ioL (.cons e es) = none :: ioL es) → (ioS (.cons e es) = ioS es) → ∃ i k : Nat, (ioL (.cons e es))[j]? = some (some i) ∧ (ioS (.cons e es))[k]? = some i ∧ os[k]? = some d := fun e1 e2 e3 => by
      rw [e1] at h
      rw [e2, e3]
      cases j with
      | zero => cases (show some Sl.no = some (Sl.ow d) from by cases os <;> exact h)
      | succ j =>
        have h : (retSl (ioF es) os)[j]? = some (Sl.ow d) := by cases os <;> exact h
        exact ret_at (es := es) h
    cases e with
    | io i =>
      cases os with
      | nil => simp [ioF, retSl] at h
      | cons o os =>
        cases j with
        | zero => cases (show some (Sl.ow o) = some (Sl.ow d) from h); exact ⟨i, 0, rfl, rfl, rfl⟩
        | succ j =>
          obtain ⟨i', k, q1, q2, q3⟩ := ret_at (es := es) (os := os) (j := j) h
          exact ⟨i', k + 1, q1, q2, q3⟩
    | _ => exact plain rfl rfl rfl
theorem io_place : ∀ {es : IEs} {k : Nat} {i : Nat}, (ioS es)[k]? = some i → ∃ j : Nat, (ioL es)[j]? = some (some i) ∧ ∀ os d, os.length = (ioS es).length → os[k]? = some d → (retSl (ioF es) os)[j]? = some (Sl.ow d)
  | .nil, k, i, h => by simp [ioS] at h
  | .cons e es, k, i, h => by
    have plain : (ioF (.cons e es) = false :: ioF es) → (ioL (.cons e es) = none :: ioL es) → (ioS (.cons e es) = ioS es) → ∃ j : Nat, (ioL (.cons e es))[j]? = some (some i) ∧ ∀ os d, os.length = (ioS (.cons e es)).length → os[k]? = some d → (retSl (ioF (.cons e es)) os)[j]? = some (.ow d) := fun e1 e2 e3 => by
      rw [e3] at h
      obtain ⟨j, q1, q2⟩ := io_place (es := es) h
      refine ⟨j + 1, by rw [e2]; exact q1, fun os d hl hk => ?_⟩
      rw [e3] at hl
      rw [e1]
      have := q2 os d hl hk
      cases os <;> exact this
    cases e with
    | io i' =>
      cases k with
      | zero =>
        cases (show some i' = some i from h)
        refine ⟨0, rfl, fun os d hl hk => ?_⟩
        cases os with
        | nil => simp at hk
        | cons o os => cases (show some o = some d from hk); rfl
      | succ k =>
        obtain ⟨j, q1, q2⟩ := io_place (es := es) (k := k) h
        refine ⟨j + 1, q1, fun os d hl hk => ?_⟩
        cases os with
        | nil => simp at hk
        | cons o os => exact q2 os d (Nat.succ.inj hl) hk
    | _ => exact plain rfl rfl rfl
theorem ioL_mem : ∀ {es : IEs} {j : Nat} {i : Nat}, (ioL es)[j]? = some (some i) → i ∈ ioS es
  | .nil, j, i, h => by simp [ioL] at h
  | .cons e es, j, i, h => by
    have plain : (ioL (.cons e es) = none :: ioL es) → (ioS (.cons e es) = ioS es) → i ∈ ioS (.cons e es) := fun e2 e3 => by
      rw [e2] at h
      rw [e3]
      cases j with
      | zero => cases h
      | succ j => exact ioL_mem (es := es) (j := j) h
    cases e with
    | io i' =>
      cases j with
      | zero => cases (show some (some i') = some (some i) from h); exact List.mem_cons_self
      | succ j => exact List.mem_cons_of_mem _ (ioL_mem (es := es) (j := j) h)
    | _ => exact plain rfl rfl
theorem ioL_inj : ∀ {es : IEs} {j k : Nat} {i : Nat}, (ioS es).Nodup → (ioL es)[j]? = some (some i) → (ioL es)[k]? = some (some i) → j = k
  | .nil, j, k, i, _, h, _ => by simp [ioL] at h
  | .cons e es, j, k, i, nd, h, h' => by
    have plain : (ioL (.cons e es) = none :: ioL es) → (ioS (.cons e es) = ioS es) → j = k := fun e2 e3 => by
      rw [e2] at h h'
      rw [e3] at nd
      cases j with
      | zero => cases h
      | succ j =>
        cases k with
        | zero => cases h'
        | succ k => exact congrArg (· + 1) (ioL_inj (es := es) nd h h')
    cases e with
    | io i' =>
      have nd : (i' :: ioS es).Nodup := nd
      rw [List.nodup_cons] at nd
      cases j with
      | zero =>
        cases (show some (some i') = some (some i) from h)
        cases k with
        | zero => rfl
        | succ k => exact absurd (ioL_mem (es := es) (j := k) h') nd.1
      | succ j =>
        cases k with
        | zero =>
          cases (show some (some i') = some (some i) from h')
          exact absurd (ioL_mem (es := es) (j := j) h) nd.1
        | succ k => exact congrArg (· + 1) (ioL_inj (es := es) nd.2 h h')
    | _ => exact plain rfl rfl
theorem ioF_count : ∀ (es : IEs), ((ioF es).filter id).length = (ioS es).length
  | .nil => rfl
  | .cons e es => by cases e <;> first | exact ioF_count es | exact congrArg (· + 1) (ioF_count es)
theorem putIo_out : ∀ {is : List Nat} {os : List D} {ρ ρ' : Ro}, putIo is os ρ = some ρ' → os.length = is.length ∧ ρ'.length = ρ.length ∧ (∀ i, i ∉ is → ρ'[i]? = ρ[i]?)
  | [], [], ρ, ρ', h => by cases h; exact ⟨rfl, rfl, fun _ _ => rfl⟩
  | i :: is, o :: os, ρ, ρ', h => by
    obtain ⟨h1, h2, h3⟩ := putIo_out (is := is) (os := os) (ρ := ρ.set i (.ow o)) h
    refine ⟨congrArg (· + 1) h1, by rw [h2, List.length_set], fun j hj => ?_⟩
    rw [h3 j fun m => hj (List.mem_cons_of_mem _ m), List.getElem?_set_ne fun e => hj (by rw [e]; exact List.mem_cons_self)]
  | [], _ :: _, _, _, h => by cases h
  | _ :: _, [], _, _, h => by cases h
theorem putIo_in : ∀ {is : List Nat} {os : List D} {ρ ρ' : Ro}, putIo is os ρ = some ρ' → is.Nodup → ∀ (k i : Nat) d, is[k]? = some i → os[k]? = some d → i < ρ.length → ρ'[i]? = some (.ow d)
  | [], _, _, _, _, _, k, i, d, h, _, _ => by simp at h
  | i0 :: is, o :: os, ρ, ρ', h, nd, k, i, d, hk, ho, hl => by
    rw [List.nodup_cons] at nd
    have h : putIo is os (ρ.set i0 (.ow o)) = some ρ' := h
    cases k with
    | zero =>
      cases (show some i0 = some i from hk)
      cases (show some o = some d from ho)
      rw [(putIo_out h).2.2 i0 nd.1, List.getElem?_set_self hl]
    | succ k => exact putIo_in h nd.2 k i d hk ho (by rw [List.length_set]; exact hl)
  | _ :: _, [], _, _, _, _, k, _, _, _, ho, _ => by simp at ho
/-- without containers: what is a container may be private -/
theorem noMut_tup {xs : List D} (h : noMut (.tuple xs) = true) : noMutAll xs = true := h
mutual
theorem Den.noMut {P P' : Addr → Prop} {H : Hp} (hp : ∀ a, P' a → P a ∨ ∃ d, Cont K w P H a d) : ∀ {v : V} {d : D}, noMut d = true → Den K w P H v d → Den K w P' H v d
  | _, _, _, .non => .non
  | _, _, _, .bl b => .bl b
  | _, _, _, .int i => .int i
  | _, _, _, .str x h => .str x h
  | _, _, h, .lst _ _ _ => by cases h
  | _, _, h, .dic _ _ _ => by cases h
  | _, _, h, .tup n r l => .tup (fun q => by
      rcases hp _ q with z | ⟨d, c⟩
      · exact n z
      · rcases r with r | ⟨o, r⟩ <;> (cases c with
          | lst e _ => rw [r] at e; cases e
          | dic e _ =>
            obtain ⟨⟨o', ep, e, _⟩, _⟩ := e
            rw [r] at e; cases e)) r (DenL.noMut hp h l)
  | _, _, h, .tupK r l => .tupK r (DenL.noMut hp h l)
theorem DenL.noMut {P P' : Addr → Prop} {H : Hp} (hp : ∀ a, P' a → P a ∨ ∃ d, Cont K w P H a d) : ∀ {v : List V} {d : List D}, noMutAll d = true → DenL K w P H v d → DenL K w P' H v d
  | _, _, _, .nil => .nil
  | _, _, h, .cons a t => by
    have h : (noMut _ && noMutAll _) = true := h
    rw [Bool.and_eq_true] at h
    exact .cons (Den.noMut hp h.1 a) (DenL.noMut hp h.2 t)
end
theorem nv_own : ∀ {es : IEs} {j : Nat}, (nvF es)[j]? = some true → (ioL es)[j]? = some none → hasOwn es = true
  | .nil, j, h, _ => by simp [nvF] at h
  | .cons e es, j, h, h' => by
    cases j with
    | zero => cases e <;> first | rfl | (cases (show some (some _) = some none from h'); done) | (cases (show some false = some true from h); done)
    | succ j =>
      have z : hasOwn es = true := by
        apply nv_own (es := es) (j := j)
        · cases e <;> exact h
        · cases e <;> exact h'
      cases e <;> first | exact z | rfl
theorem map_some_at {vs : List V} {j : Nat} {x : Option V} (h : (vs.map some)[j]? = some x) : ∃ v, x = some v ∧ vs[j]? = some v := by
  rw [List.getElem?_map] at h
  obtain ⟨v, e, rfl⟩ := Option.map_eq_some_iff.mp h
  exact ⟨v, rfl, e⟩
theorem at_map {vs : List V} {j : Nat} {v : V} (h : vs[j]? = some v) : (vs.map some)[j]? = some (some v) := by
  rw [List.getElem?_map, h]
  rfl
/-- a call from its operands -/
theorem call_key {Z : Addr → Prop} {ρ ρ'' : Ro} {σ : L2.St} {H : Hp} {es : IEs} {vs : List V} {ds : List D} {C : Call} {f : Nat} {rv : D} {os : List D} {Q : VK} {E : XK} (r : Rel K w Z ρ σ H) (o : OpsD K w ρ σ (PP Z ρ σ) H es vs ds) (nd : (ioS es).Nodup)
    (hC : C f ds = some (rv, os)) (hm : (hasOwn es && (!noMut rv || !(ioS es).isEmpty)) = false) (hp : putIo (ioS es) os ρ = some ρ'')
    (hQ : ∀ v H', Go (Ow ρ σ) H (Ow ρ'' σ) H' → Rel K w Z ρ'' σ H' → Den K w (PP Z ρ'' σ) H' v rv → Q v H') : spOf K w (ioF es) f C vs H Q E := by
  obtain ⟨l1, l2⟩ := o.len
  obtain ⟨po1, po2, po3⟩ := putIo_out hp
  have oat := o.at
  -- an own argument: no in-out ones
  have ownE : ∀ {j : Nat}, (nvF es)[j]? = some true → (ioL es)[j]? = some none → ioS es = [] ∧ noMut rv = true := fun {j} h1 h2 => by
    rw [nv_own h1 h2, Bool.true_and, Bool.or_eq_false_iff] at hm
    refine ⟨?_, by simpa using hm.1⟩
    have := hm.2
    cases e : ioS es with
    | nil => rfl
    | cons _ _ => rw [e] at this; cases this
  let Z' : Addr → Prop := fun a => PP Z ρ σ a ∧ ∀ (j : Nat) (d : D), (nvF es)[j]? = some true → vs[j]? = some (V.ref a) → ¬ Cont K w (PP Z ρ σ) H a d
  have owp : ∀ {a}, Ow (parSl (ioF es) ds) (vs.map some) a → ∃ j i d, (ioL es)[j]? = some (some i) ∧ vs[j]? = some (V.ref a) ∧ (nvF es)[j]? = some true ∧ σ[i]? = some (some (V.ref a)) ∧ ρ[i]? = some (Sl.ow d) ∧ Cont K w (PP Z ρ σ) H a d := fun {a} h => by
    obtain ⟨j, d, h1, h2⟩ := h
    obtain ⟨v, e, h2⟩ := map_some_at h2
    cases e
    obtain ⟨b, d', e1, e2, e3⟩ := parSl_at h1
    obtain ⟨d2, o2, n2, q1, q2, q3, q4, q5⟩ := oat j _ h2
    rw [e1] at q4
    cases b with
    | false => cases e3
    | true =>
      cases q5 with
      | io s1 s2 s3 s4 => exact ⟨j, _, d2, q2, h2, q3, s1, s2, s4⟩
      | own _ => cases q4
      | val _ => cases q4
  have subp : ∀ a, PP Z' (parSl (ioF es) ds) (vs.map some) a → PP Z ρ σ a := fun a h => by
    rcases h with h | h
    · exact h.1
    · obtain ⟨j, i, d, _, _, _, h1, h2, _⟩ := owp h
      exact .inr ⟨i, d, h2, h1⟩
  have R0 : Rel K w Z' (parSl (ioF es) ds) (vs.map some) H := by
    refine ⟨by rw [parSl_len l2, List.length_map, l1], fun j d h => ?_, fun j d h => ?_, fun j k a d e h1 h2 h3 h4 => ?_, fun a h => r.pp h.1⟩
    · obtain ⟨b, d', e1, e2, e3⟩ := parSl_at h
      cases b with
      | true => cases e3
      | false =>
        cases e3
        have hj : j < vs.length := by rw [l1, ← l2]; exact (List.getElem?_eq_some_iff.mp e2).1
        obtain ⟨v, ev⟩ : ∃ v, vs[j]? = some v := ⟨_, List.getElem?_eq_getElem hj⟩
        obtain ⟨d2, o2, n2, q1, q2, q3, q4, q5⟩ := oat j _ ev
        rw [e2] at q1
        cases q1
        rw [e1] at q4
        refine ⟨v, at_map ev, ?_⟩
        cases q5 with
        | io _ _ _ _ => cases q4
        | val dv => exact dv.go (Go.sub subp)
        | own dv =>
          rcases dv with dv | ⟨a, rfl, pa, c⟩
          · exact dv.go (Go.sub subp)
          · refine (c.go (Go.sub subp) rfl).den fun q => ?_
            rcases q with q | q
            · exact q.2 j d q3 ev c
            · obtain ⟨j', i, d', h1, _⟩ := owp q
              have := ioL_mem h1
              rw [(ownE q3 q2).1] at this
              cases this
    · obtain ⟨b, d', e1, e2, e3⟩ := parSl_at h
      cases b with
      | false => cases e3
      | true =>
        cases e3
        have hj : j < vs.length := by rw [l1, ← l2]; exact (List.getElem?_eq_some_iff.mp e2).1
        obtain ⟨v, ev⟩ : ∃ v, vs[j]? = some v := ⟨_, List.getElem?_eq_getElem hj⟩
        obtain ⟨d2, o2, n2, q1, q2, q3, q4, q5⟩ := oat j _ ev
        rw [e2] at q1
        cases q1
        rw [e1] at q4
        cases q5 with
        | val _ => cases q4
        | own _ => cases q4
        | io s1 s2 s3 s4 => exact ⟨_, at_map ev, fun q => q.2 j d q3 ev s4, s4.go (Go.sub subp) rfl⟩
    · obtain ⟨v, e1, h3⟩ := map_some_at h3
      cases e1
      obtain ⟨v, e1, h4⟩ := map_some_at h4
      cases e1
      obtain ⟨b, d', e1, e2, e3⟩ := parSl_at h1
      obtain ⟨b', d'', e1', e2', e3'⟩ := parSl_at h2
      obtain ⟨d2, o2, n2, q1, q2, q3, q4, q5⟩ := oat j _ h3
      obtain ⟨d2', o2', n2', q1', q2', q3', q4', q5'⟩ := oat k _ h4
      rw [e1] at q4
      rw [e1'] at q4'
      cases b with
      | false => cases e3
      | true =>
        cases b' with
        | false => cases e3'
        | true =>
          cases q5 with
          | own _ => cases q4
          | val _ => cases q4
          | io s1 s2 s3 s4 =>
            cases q5' with
            | own _ => cases q4'
            | val _ => cases q4'
            | io s1' s2' s3' s4' =>
              have := r.inj _ _ _ _ _ s2 s2' s1 s1'
              subst this
              exact ioL_inj nd q2 q2'
  refine ⟨Z', ds, rv, os, l1, l2, R0, hC, fun v H' hl g R dv => ?_⟩
  rw [ioF_count] at hl
  -- the slots behind the call
  have ow_iff : ∀ {i : Nat} {d : D}, ρ''[i]? = some (Sl.ow d) → (i ∉ ioS es ∧ ρ[i]? = some (Sl.ow d)) ∨ ∃ j a d0, (ioL es)[j]? = some (some i) ∧ vs[j]? = some (V.ref a) ∧ σ[i]? = some (some (V.ref a)) ∧ ρ[i]? = some (Sl.ow d0) ∧ (retSl (ioF es) os)[j]? = some (Sl.ow d) := fun {i d} h => by
    by_cases hi : i ∈ ioS es
    · right
      obtain ⟨k, hk, ek⟩ := List.mem_iff_getElem.mp hi
      have ek : (ioS es)[k]? = some i := by rw [List.getElem?_eq_getElem hk, ek]
      obtain ⟨j, hj, hret⟩ := io_place ek
      have hjv : j < vs.length := by
        have z : j < (ioL es).length := (List.getElem?_eq_some_iff.mp hj).1
        have : ∀ es : IEs, (ioL es).length = (ioF es).length := fun es => by
          induction es using IEs.rec (motive_1 := fun _ => True) (motive_3 := fun _ => True) <;> first | trivial | (rename_i e es _ ih; cases e <;> exact congrArg (· + 1) ih)
        rw [l1, ← this]
        exact z
      obtain ⟨v', ev⟩ : ∃ v, vs[j]? = some v := ⟨_, List.getElem?_eq_getElem hjv⟩
      obtain ⟨d2, o2, n2, q1, q2, q3, q4, q5⟩ := oat j _ ev
      rw [hj] at q2
      cases q2
      cases q5 with
      | io s1 s2 s3 s4 =>
        have hlt : i < ρ.length := (List.getElem?_eq_some_iff.mp s2).1
        have hos : ∃ d', os[k]? = some d' := ⟨_, List.getElem?_eq_getElem (by rw [hl]; exact hk)⟩
        obtain ⟨d', ed⟩ := hos
        have e2 := putIo_in hp nd k i d' ek ed hlt
        rw [h] at e2
        cases e2
        exact ⟨j, _, _, hj, ev, s1, s2, hret os d hl ed⟩
    · exact .inl ⟨hi, by rw [← po3 i hi]; exact h⟩
  have owEq : ∀ a, Ow ρ'' σ a → Ow ρ σ a := fun a h => by
    obtain ⟨i, d, h1, h2⟩ := h
    rcases ow_iff h1 with ⟨_, z⟩ | ⟨j, a', d0, _, _, z1, z2, _⟩
    · exact ⟨i, d, z, h2⟩
    · exact ⟨i, d0, z2, h2⟩
  have g1 : Go (Ow ρ σ) H (Ow ρ'' σ) H' := ⟨fun a u e n => g.keep a u e fun q => by
    obtain ⟨j, i, d, _, _, _, h1, h2, _⟩ := owp q
    exact n ⟨i, d, h2, h1⟩, fun a q => .inl (owEq a q), g.dom⟩
  have gP : Go (PP Z ρ σ) H (PP Z ρ'' σ) H' := g1.pp fun _ q => .inl q
  have ppEq : ∀ a, PP Z ρ'' σ a → PP Z ρ σ a := fun a q => q.imp id (owEq a)
  -- an in-out argument is the callee's own at the end
  have io_ret : ∀ {j i : Nat} {a : Addr}, (ioL es)[j]? = some (some i) → vs[j]? = some (V.ref a) → Ow (retSl (ioF es) os) (vs.map some) a := fun {j i a} h1 h2 => by
    obtain ⟨k, hk, ek⟩ := List.mem_iff_getElem.mp (ioL_mem h1)
    have ek : (ioS es)[k]? = some i := by rw [List.getElem?_eq_getElem hk, ek]
    obtain ⟨j', hj', hret⟩ := io_place ek
    have := ioL_inj nd h1 hj'
    subst this
    obtain ⟨d', ed⟩ : ∃ d', os[k]? = some d' := ⟨_, List.getElem?_eq_getElem (by rw [hl]; exact hk)⟩
    exact ⟨j, d', hret os d' hl ed, at_map h2⟩
  -- what is private stays private to the callee, but for own arguments
  have priv : ∀ a, PP Z ρ σ a → PP Z' (retSl (ioF es) os) (vs.map some) a ∨ ∃ j d, (nvF es)[j]? = some true ∧ (ioL es)[j]? = some none ∧ vs[j]? = some (V.ref a) ∧ Cont K w (PP Z ρ σ) H a d := fun a h => by
    by_cases z : Z' a
    · exact .inl (.inl z)
    · have : ∃ (j : Nat) (d : D), (nvF es)[j]? = some true ∧ vs[j]? = some (V.ref a) ∧ Cont K w (PP Z ρ σ) H a d := Classical.byContradiction fun q => z ⟨h, fun j d h1 h2 h3 => q ⟨j, d, h1, h2, h3⟩⟩
      obtain ⟨j, d, h1, h2, h3⟩ := this
      obtain ⟨d2, o2, n2, q1, q2, q3, q4, q5⟩ := oat j _ h2
      cases o2 with
      | some i => exact .inl (.inr (io_ret q2 h2))
      | none => exact .inr ⟨j, d, h1, q2, h2, h3⟩
  have R1 : Rel K w Z ρ'' σ H' := by
    refine ⟨by rw [po2]; exact r.len, fun i d h => ?_, fun i d h => ?_, fun i j a d e h1 h2 h3 h4 => ?_, fun a z => g.dom a (r.z a z)⟩
    · have hi : i ∉ ioS es := fun m => by
        obtain ⟨k, hk, ek⟩ := List.mem_iff_getElem.mp m
        have ek : (ioS es)[k]? = some i := by rw [List.getElem?_eq_getElem hk, ek]
        obtain ⟨d', ed⟩ : ∃ d', os[k]? = some d' := ⟨_, List.getElem?_eq_getElem (by rw [hl]; exact hk)⟩
        have hlt : i < ρ.length := by rw [← po2]; exact (List.getElem?_eq_some_iff.mp h).1
        have := putIo_in hp nd k i d' ek ed hlt
        rw [h] at this
        cases this
      rw [po3 i hi] at h
      obtain ⟨v', ev, dv'⟩ := r.sh i d h
      exact ⟨v', ev, dv'.go gP⟩
    · rcases ow_iff h with ⟨hi, z⟩ | ⟨j, a, d0, hj, ev, s1, s2, hr⟩
      · obtain ⟨a, ea, na, c⟩ := r.ow i d z
        have nb : ¬ Ow (parSl (ioF es) ds) (vs.map some) a := fun q => by
          obtain ⟨j, i', d', h1, _, _, h3, h4, _⟩ := owp q
          have := r.inj i i' a _ _ z h4 ea h3
          subst this
          exact hi (ioL_mem h1)
        have st : H' a = H a := by
          cases e : H a with
          | none => exact absurd e c.there
          | some u => exact g.keep a u e nb
        exact ⟨a, ea, na, c.go gP st⟩
      · obtain ⟨a', ea', _, c⟩ := R.ow j d hr
        obtain ⟨_, e1, e2⟩ := map_some_at ea'
        cases e1
        rw [ev] at e2
        cases e2
        obtain ⟨a2, ea2, na, _⟩ := r.ow i d0 s2
        rw [s1] at ea2
        cases ea2
        refine ⟨a, s1, na, c.go (Go.sub fun x q => ?_) rfl⟩
        rcases priv x (ppEq x q) with q | ⟨j', d', h1, h2, _⟩
        · exact q
        · have := (ownE h1 h2).1
          have m := ioL_mem hj
          rw [this] at m
          cases m
    · have w1 : ∃ d, ρ[i]? = some (Sl.ow d) := by
        rcases ow_iff h1 with ⟨_, z⟩ | ⟨_, _, d0, _, _, _, z, _⟩
        · exact ⟨_, z⟩
        · exact ⟨_, z⟩
      have w2 : ∃ d, ρ[j]? = some (Sl.ow d) := by
        rcases ow_iff h2 with ⟨_, z⟩ | ⟨_, _, d0, _, _, _, z, _⟩
        · exact ⟨_, z⟩
        · exact ⟨_, z⟩
      obtain ⟨_, w1⟩ := w1
      obtain ⟨_, w2⟩ := w2
      exact r.inj i j a _ _ w1 w2 h3 h4
  refine hQ v H' g1 R1 ?_
  by_cases ho : hasOwn es = true
  · rw [ho, Bool.true_and, Bool.or_eq_false_iff] at hm
    refine Den.noMut (fun x q => ?_) (show noMut rv = true by simpa using hm.1) dv
    rcases priv x (ppEq x q) with q | ⟨j', d', h1, h2, h3, c⟩
    · exact .inl q
    · have nb : ¬ Ow (parSl (ioF es) ds) (vs.map some) x := fun q => by
        obtain ⟨j, i', d', z1, _⟩ := owp q
        have m := ioL_mem z1
        rw [(ownE h1 h2).1] at m
        cases m
      have st : H' x = H x := by
        cases e : H x with
        | none => exact absurd e c.there
        | some u => exact g.keep x u e nb
      by_cases pq : PP Z' (retSl (ioF es) os) (vs.map some) x
      · exact .inl pq
      · refine .inr ⟨d', c.go (P' := PP Z' (retSl (ioF es) os) (vs.map some)) ⟨gP.keep, fun y z => ?_, gP.dom⟩ st⟩
        rcases z with z | z
        · exact .inl z.1
        · obtain ⟨jj, dd, z1, z2⟩ := z
          obtain ⟨ii, kk, y1, y2, y3⟩ := ret_at z1
          have m := ioL_mem y1
          rw [(ownE h1 h2).1] at m
          cases m
  · refine dv.go (Go.sub fun x q => ?_)
    rcases priv x (ppEq x q) with q | ⟨j', d', h1, h2, _⟩
    · exact q
    · exact absurd (nv_own h1 h2) ho
end
end DV
end

section
/-! what changes a container; names; calls -/
namespace DV
open PySem PySem.Spec PyProof.Rows L2
section
variable {K : PySem.W.Frag} {w : World} {Z : Addr → Prop} {ρ ρ' : Ro} {σ : L2.St} {H H0 H' : Hp}
theorem set_ow {i : Nat} {c c' : D} (hi : ρ[i]? = some (Sl.ow c)) {j : Nat} {x : Sl} (h : (ρ.set i (Sl.ow c'))[j]? = some x) : (j = i ∧ x = Sl.ow c') ∨ (j ≠ i ∧ ρ[j]? = some x) := by
  by_cases hj : j = i
  · subst hj
    rw [List.getElem?_set_self (List.getElem?_eq_some_iff.mp hi).1] at h
    exact .inl ⟨rfl, (Option.some.inj h).symm⟩
  · rw [List.getElem?_set_ne (Ne.symm hj)] at h
    exact .inr ⟨hj, h⟩
theorem ow_set {i : Nat} {c c' : D} (hi : ρ[i]? = some (Sl.ow c)) (a : Addr) : Ow (ρ.set i (Sl.ow c')) σ a → Ow ρ σ a := fun h => by
  obtain ⟨j, d, h1, h2⟩ := h
  rcases set_ow hi h1 with ⟨rfl, _⟩ | ⟨_, z⟩
  · exact ⟨j, c, hi, h2⟩
  · exact ⟨j, d, z, h2⟩
theorem upd_there {a b : Addr} {o : HO} (h : H b ≠ none) : upd H a o b ≠ none := by
  by_cases e : b = a
  · subst e; rw [upd_same]; simp
  · rw [upd_ne e]; exact h
theorem Go.put {P P' : Addr → Prop} {a : Addr} {o : HO} (p : P a) (s : ∀ x, P' x → P x) : Go P H P' (upd H a o) :=
  ⟨fun b u e n => by rw [upd_ne fun q => n (by rw [q]; exact p)]; exact e, fun b q => .inl (s b q), fun b e => upd_there e⟩
/-- a slot's own container gets a new content -/
theorem Rel.write (r : Rel K w Z ρ σ H) {i : Nat} {c c' : D} {a : Addr} (hi : ρ[i]? = some (Sl.ow c)) (ea : σ[i]? = some (some (V.ref a))) (o : HO) :
    Go (Ow ρ σ) H (Ow (ρ.set i (Sl.ow c')) σ) (upd H a o) ∧ Go (PP Z ρ σ) H (PP Z (ρ.set i (Sl.ow c')) σ) (upd H a o) ∧
      (Cont K w (PP Z (ρ.set i (Sl.ow c')) σ) (upd H a o) a c' → Rel K w Z (ρ.set i (Sl.ow c')) σ (upd H a o)) := by
  have pa : Ow ρ σ a := ⟨i, c, hi, ea⟩
  have g1 : Go (Ow ρ σ) H (Ow (ρ.set i (Sl.ow c')) σ) (upd H a o) := Go.put pa (ow_set hi)
  have g2 : Go (PP Z ρ σ) H (PP Z (ρ.set i (Sl.ow c')) σ) (upd H a o) := Go.put (.inr pa) fun x q => q.imp id (ow_set hi x)
  refine ⟨g1, g2, fun k => ⟨by rw [List.length_set]; exact r.len, fun j d h => ?_, fun j d h => ?_, fun j k b d e h1 h2 h3 h4 => ?_, fun b z => upd_there (r.z b z)⟩⟩
  · rcases set_ow hi h with ⟨_, z⟩ | ⟨_, z⟩
    · cases z
    · obtain ⟨v, ev, dv⟩ := r.sh j d z
      exact ⟨v, ev, dv.go g2⟩
  · rcases set_ow hi h with ⟨rfl, z⟩ | ⟨hj, z⟩
    · cases z
      obtain ⟨a', ea', na, _⟩ := r.ow j c hi
      rw [ea] at ea'
      cases ea'
      exact ⟨a, ea, na, k⟩
    · obtain ⟨b, eb, nb, cb⟩ := r.ow j d z
      have hne : b ≠ a := fun q => by
        subst q
        exact hj (r.inj j i b d c z hi eb ea)
      exact ⟨b, eb, nb, cb.go g2 (upd_ne hne)⟩
  · have w1 : ∃ d, ρ[j]? = some (Sl.ow d) := by
      rcases set_ow hi h1 with ⟨rfl, _⟩ | ⟨_, z⟩
      · exact ⟨_, hi⟩
      · exact ⟨_, z⟩
    have w2 : ∃ d, ρ[k]? = some (Sl.ow d) := by
      rcases set_ow hi h2 with ⟨rfl, _⟩ | ⟨_, z⟩
      · exact ⟨_, hi⟩
      · exact ⟨_, z⟩
    obtain ⟨_, w1⟩ := w1
    obtain ⟨_, w2⟩ := w2
    exact r.inj j k b _ _ w1 w2 h3 h4
/-- something kept apart is changed -/
theorem Rel.apart (r : Rel K w Z ρ σ H) {a : Addr} (za : Z a) (o : HO) : Go (PP Z ρ σ) H (PP Z ρ σ) (upd H a o) ∧ Rel K w Z ρ σ (upd H a o) := by
  have g : Go (PP Z ρ σ) H (PP Z ρ σ) (upd H a o) := Go.put (.inl za) fun x q => q
  refine ⟨g, r.len, fun j d h => ?_, fun j d h => ?_, r.inj, fun b z => upd_there (r.z b z)⟩
  · obtain ⟨v, ev, dv⟩ := r.sh j d h
    exact ⟨v, ev, dv.go g⟩
  · obtain ⟨b, eb, nb, cb⟩ := r.ow j d h
    exact ⟨b, eb, nb, cb.go g (upd_ne fun q => nb (by rw [q]; exact za))⟩
/-- a new object, changed behind -/
theorem Go.over {P P' : Addr → Prop} {a : Addr} {o : HO} (g : Go P H0 P' H) (n : H0 a = none) : Go P H0 P' (upd H a o) :=
  ⟨fun b u e q => by rw [upd_ne (ne_of_none e n)]; exact g.keep b u e q, g.priv, fun b e => upd_there (g.dom b e)⟩
theorem Go.first {P P' : Addr → Prop} {a : Addr} {o : HO} (n : H0 a = none) (g : Go P (upd H0 a o) P' H) (hp : ¬ P' a) : Go P H0 P' H :=
  ⟨fun b u e q => g.keep b u (by rw [upd_ne (ne_of_none e n)]; exact e) q, fun b q => by
    rcases g.priv b q with z | z
    · exact .inl z
    · by_cases e : b = a
      · subst e; exact absurd q hp
      · rw [upd_ne e] at z; exact .inr z, fun b e => g.dom b (upd_there e)⟩
end

section
variable {X : Cx} {C : Call}
/-! ### names -/
def ckN (G : Ck) (sc : Scope) (i : Nat) (x : Str) : Bool := decide (G.N[i]? = some x) && visB sc x
structure Env1 (G : Ck) (sc : Scope) (X : Cx) : Prop where
  N : X.N = G.N
  sc : X.env.scope = sc
theorem g_var {G : Ck} {sc : Scope} (hN : X.N = G.N) (hs : X.env.scope = sc) {i : Nat} {x : Str} {pos : Pos} (h : ckN G sc i x = true) : Good X C (.var i) (.Name x pos) ∧ Good X C (.esc i) (.Name x pos) ∧ PE X (.Name x pos) (tVar i) := by
  unfold ckN at h
  rw [Bool.and_eq_true] at h
  have e := of_decide_eq_true h.1
  rw [← hN] at e
  obtain ⟨v1, v2, v3⟩ := visB_iff hs h.2
  exact ⟨.plain (s_var e v1 v2 v3) rfl, .plain (s_esc e v1 v2 v3) rfl, pe_var e v1 v2 v3⟩
/-- the truth of what a slot holds -/
theorem own_truth {σ : L2.St} {H : Hp} {i : Nat} {Q : Bool → Hp → Prop} (h : tT X.K X.w C (.prim .truth (.cons (.own i) .nil)) σ H Q) : tVar i σ H fun x H' => ∃ k, TruV X.K x H' k ∧ Q k H' := by
  obtain ⟨Z, ρ, d, ρ', k, r, ev, tr, hQ⟩ := h
  obtain ⟨ds, e1, e2⟩ := prim_some ev
  refine (ops1_ok (a := .own i) r e1 fun x H' dx ed g r' h1 => ?_ : oR X.K X.w C (.own i) σ H fun x H' => ∃ k, TruV X.K x H' k ∧ Q k H')
  subst ed
  obtain ⟨b, e3, e4⟩ := Option.map_eq_some_iff.mp (show (truthF dx).map PyData.bool = some d from e2)
  subst e4
  cases (show some b = some k from tr)
  exact ⟨_, tru_of h1 e3, hQ H' g r'⟩
theorem pt_own {i : Nat} {x : Str} {pos : Pos} (h : PE X (.Name x pos) (tVar i)) : PT X (.Name x pos) (tT X.K X.w C (.prim .truth (.cons (.own i) .nil))) :=
  (pt_truth h (plainT_eq rfl)).weaken fun σ H Q q => own_truth q
theorem g_notOwn {i : Nat} {x : Str} {pos p : Pos} (h : PE X (.Name x p) (tVar i)) : Good X C (.not (.prim .truth (.cons (.own i) .nil))) (.UnaryOp .Not (.Name x p) pos) := by
  refine ⟨(pe_notT h).weaken fun σ H Q q => ?_, (pt_not (pt_own (C := C) h)).weaken fun σ H Q q => ?_⟩
  · obtain ⟨Z, ρ, d, ρ', r, ev, hQ⟩ := q
    obtain ⟨x, ρ1, k, e1, e2, rfl, rfl⟩ := evE_bool (f := fun k => !k) ev
    exact own_truth (C := C) (Q := fun k H' => Q (.bl (!k)) H') ⟨Z, ρ, x, ρ', k, r, e1, e2, fun H' g r' => hQ _ H' g (.flat rfl r' (.bl _))⟩
  · obtain ⟨Z, ρ, d, ρ', k0, r, ev, tr, hQ⟩ := q
    obtain ⟨x, ρ1, k, e1, e2, rfl, rfl⟩ := evE_bool (f := fun k => !k) ev
    cases (show some (!k) = some k0 from tr)
    exact ⟨Z, ρ, x, ρ', k, r, e1, e2, fun H' g r' => hQ H' g r'⟩

/-! ### calls -/
theorem s_call {f : Nat} {x : Str} {io : List Bool} {k : Nat} {a : Addr} {fd : FuncData} {ps : List Str} (F : FnOk X.prog X.w X.K X.mg X.base CX0 k a fd ps (spOf X.K X.w io f C)) (hr : Room k X.A) (hm : X.mg x = some (.ref a)) (hk : PySem.W.keepIn X.K (.ref a) = true) (hb : Binds X.K fd ps [])
    (hg : Gl X x) (hd : (x == ("__debug__" : Str)) = false) {es : IEs} {args : List Expr} {p pos : Pos} (hx : OpsP X C es args) (ns : nostar args = true) (hio : ioF es = io) (nd : (ioS es).Nodup) : PE X (.Call (.Name x p) args [] pos) (tE X.K X.w C (.call f es)) := by
  have key : ∀ {σ : L2.St} {H : Hp} {Q : VK}, tE X.K X.w C (.call f es) σ H Q → tCall (spOf X.K X.w io f C) [] (fun _ _ _ => False) (opsR X.K X.w C es) σ H Q := fun {σ H Q} h => by
    obtain ⟨Z, ρ, d, ρ', r, ev, hQ⟩ := h
    obtain ⟨⟨ds, ρ1⟩, e1, h⟩ := Option.bind_eq_some_iff.mp (show ((evOps C es ρ).bind fun p => (C f p.1).bind fun r => if hasOwn es && (!noMut r.1 || !(ioS es).isEmpty) then none else (putIo (ioS es) r.2 p.2).map fun ρ' => (r.1, ρ')) = some (d, ρ') from ev)
    obtain ⟨⟨rv, os⟩, e2, h⟩ := Option.bind_eq_some_iff.mp h
    by_cases hm : (hasOwn es && (!noMut rv || !(ioS es).isEmpty)) = true
    · rw [if_pos hm] at h; cases h
    · rw [if_neg hm] at h
      obtain ⟨ρ2, e3, h⟩ := Option.map_eq_some_iff.mp h
      cases h
      refine ops_ok es r e1 fun vs H' g r' o => ?_
      rw [← hio, List.append_nil]
      exact call_key r' o nd e2 (by simpa using hm) e3 fun v H2 g2 r2 dv => hQ v H2 (g.trans g2) (.flat rfl r2 dv)
  cases args with
  | nil =>
    have h0 : es = .nil := by
      cases es with
      | nil => rfl
      | cons _ _ => exact hx.elim
    subst h0
    exact (pe_call0 F hr hg hm hk hb .nil pass0 hd).weaken fun σ H Q q => key q
  | cons e es' =>
    obtain ⟨n1, n2⟩ := nostar_cons ns
    exact (pe_call F hr hg hm hk hb .nil pass0 (hx.pa ns) hd (star_cons n1) (no_any n2)).weaken fun σ H Q q => key q
end
end DV
end

section
/-! methods that change a list; displays of dicts -/
namespace DV
open PySem PySem.Spec PyProof.Rows L2
section
variable {X : Cx} {C : Call}
theorem DenL.dropLast {K : PySem.W.Frag} {w : World} {P : Addr → Prop} {H : Hp} : ∀ {vs : List V} {ds : List D}, DenL K w P H vs ds → DenL K w P H vs.dropLast ds.dropLast
  | _, _, .nil => .nil
  | _, _, .cons h .nil => .nil
  | _, _, .cons h (.cons h' t) => .cons h (DenL.dropLast (.cons h' t))
theorem Cont.list {K : PySem.W.Frag} {w : World} {P : Addr → Prop} {H : Hp} {a : Addr} {ds : List D} (c : Cont K w P H a (.list ds)) : ∃ xs, H a = some (.lst xs) ∧ DenL K w P H xs ds := by
  cases c with
  | lst h l => exact ⟨_, h, l⟩
/-- the method of a list, from what its operands are -/
theorem s_mutG {m : Mu} {name : Str} {id : String} {es : IEs} {i : Nat} {rr : V → List V → Hp → VK → Prop} (slot : Slot "list" name id) (hty : typeOf (.builtin id) = pure (.type "method_descriptor")) (hm : MtR X id rr)
    (hk : ∀ c ds r, mutF m c ds = some r → kindD c = 4)
    (hr : ∀ {Z ρ σ H vs ds a c c' res} {Q : VK}, Rel X.K X.w Z ρ σ H → ρ[i]? = some (Sl.ow c) → σ[i]? = some (some (V.ref a)) → OpsD X.K X.w ρ σ (PP Z ρ σ) H es vs ds → mutF m c ds = some (c', res) →
      (∀ v H', Go (Ow ρ σ) H (Ow (ρ.set i (Sl.ow c')) σ) H' → Rel X.K X.w Z (ρ.set i (Sl.ow c')) σ H' → Den X.K X.w (PP Z (ρ.set i (Sl.ow c')) σ) H' v res → Q v H') → rr (.ref a) vs H Q)
    {x : Str} {p ap cp : Pos} {args : List Expr} (ho : PE X (.Name x p) (tVar i)) (hx : OpsP X C es args) (ns : nostar args = true) (hl : args.length < 25) (hline : (ap.endLine == cp.line) = true) :
    PE X (.Call (.Attribute (.Name x p) name ap) args [] cp) (tE X.K X.w C (.mut m i es)) := by
  refine ⟨fun pins s σ H Q I h => ?_⟩
  obtain ⟨Z, ρ, d, ρ', r, ev, hQ⟩ := h
  obtain ⟨c0, e0, h⟩ := Option.bind_eq_some_iff.mp (show ((getOw ρ i).bind fun c0 => (evOps C es ρ).bind fun p => (getOw p.2 i).bind fun c => if kindD c0 = kindD c then (mutF m c p.1).map fun r => (r.2, p.2.set i (.ow r.1)) else none) = some (d, ρ') from ev)
  obtain ⟨⟨ds, ρ1⟩, e1, h⟩ := Option.bind_eq_some_iff.mp h
  obtain ⟨c, e2, h⟩ := Option.bind_eq_some_iff.mp h
  by_cases hkk : kindD c0 = kindD c
  · rw [if_pos hkk] at h
    obtain ⟨⟨c', res⟩, e3, h⟩ := Option.map_eq_some_iff.mp h
    cases h
    obtain ⟨a, ea, na, ca⟩ := r.ow i c0 (getOw_some e0)
    have dT : DenT X.K X.w (PP Z ρ σ) H (.ref a) c0 := .inr ⟨a, rfl, .inr ⟨i, c0, getOw_some e0, ea⟩, ca⟩
    refine wpAny_Call_method_late (noSuper_eq rfl) ?_ hline rfl (thn (ho.run pins s σ H (fun x H1 => x = .ref a ∧ H1 = H) I ⟨_, ea, rfl, rfl⟩) fun v s1 ⟨x, H1, I1, r1, ex, eH⟩ => ?_)
    · rw [no_all ns]
      show (true && true && decide (args.length + 0 + 0 < 30)) = true
      rw [decide_eq_true (by omega)]
      rfl
    · subst ex eH
      obtain ⟨t1, t2⟩ := kind_is I1 dT r1 (k := 4) (T := "list") (hkk.trans (hk _ _ _ e3)) (.inr (.inl ⟨rfl, rfl⟩))
      refine ⟨"list", id, PySem.F.plainAttrs_list, slot, hty, t1, t2, ?_⟩
      have fin : ∀ (us : List Value) (s2 : Shared), AP X pins σ (fun vs H' => Go (Ow ρ σ) H1 (Ow ρ1 σ) H' ∧ Rel X.K X.w Z ρ1 σ H' ∧ OpsD X.K X.w ρ1 σ (PP Z ρ1 σ) H' es vs ds) us s2 → wpAny (model X.prog X.w) X.A (call (.builtin id) (v :: us)) (EP X pins σ Q) X.xe s2 := by
        rintro us s2 ⟨vs, H2, I2, rv, g, r', o⟩
        refine hm pins s2 σ H2 (.ref a) vs v us Q I2 r1 rv (hr r' (getOw_some e2) ea o e3 fun v H' g2 r2 dv => hQ v H' (g.trans g2) (.flat rfl r2 dv))
      cases args with
      | nil =>
        have h0 : es = .nil := by
          cases es with
          | nil => rfl
          | cons _ _ => exact hx.elim
        subst h0
        exact Calls.callWith_builtin rfl (PySem.evalArgs_none (fin [] s1 ⟨[], H1, I1, .nil, ops_ok (Q := fun vs H' => vs = [] → H' = H1 → Go (Ow ρ σ) H1 (Ow ρ1 σ) H' ∧ Rel X.K X.w Z ρ1 σ H' ∧ OpsD X.K X.w ρ1 σ (PP Z ρ1 σ) H' .nil vs ds) .nil r e1 (fun vs H' g r' o _ _ => ⟨g, r', o⟩) rfl rfl⟩))
      | cons e0 es0 =>
        have hA := (hx.pa ns).run cp pins s1 σ H1 _ I1 (ops_ok es r e1 fun vs H' g r' o => (⟨g, r', o⟩ : Go (Ow ρ σ) H1 (Ow ρ1 σ) H' ∧ Rel X.K X.w Z ρ1 σ H' ∧ OpsD X.K X.w ρ1 σ (PP Z ρ1 σ) H' es vs ds))
        have na := no_any (pos := cp) (env := X.env) ns
        rw [star_cons (nostar_cons ns).1] at hA na ⊢
        refine Calls.callWith_builtin na (Calls.evalArgs_plain ?_)
        exact thn hA fun us s2 q => fin us s2 q
  · rw [if_neg hkk] at h; cases h
theorem opsD1 {K : PySem.W.Frag} {w : World} {ρ : Ro} {σ : L2.St} {P : Addr → Prop} {H : Hp} {es : IEs} {vs : List V} {d : D} (o : OpsD K w ρ σ P H es vs [d]) : ∃ v, vs = [v] ∧ DenT K w P H v d := den1 o.dens
/-- a list is made longer -/
theorem mut_append {ds : List D} {c c' res : D} (h : mutF .append c ds = some (c', res)) : ∃ xs d, c = .list xs ∧ ds = [d] ∧ xs.length < sizeLine ∧ c' = .list (xs ++ [d]) ∧ res = .none := by
  unfold mutF at h
  split at h
  · rename_i xs d e
    obtain ⟨h1, h2⟩ := ite_some h
    cases h2
    exact ⟨_, _, rfl, rfl, h1, rfl, rfl⟩
  all_goals first | cases h | (rename_i e; cases e)
theorem s_append {es : IEs} {i : Nat} {x : Str} {p ap cp : Pos} {args : List Expr} (hv : valOps es = true) (ho : PE X (.Name x p) (tVar i)) (hx : OpsP X C es args) (ns : nostar args = true) (hl : args.length < 25) (hline : (ap.endLine == cp.line) = true) :
    PE X (.Call (.Attribute (.Name x p) "append" ap) args [] cp) (tE X.K X.w C (.mut .append i es)) := by
  refine s_mutG PySem.F.slot_list_append PySem.F.type_list_append mt_append (fun c ds r h => ?_) (fun {Z ρ σ H vs ds a c c' res Q} r hi ea o h hQ => ?_) ho hx ns hl hline
  · obtain ⟨xs, d, rfl, _⟩ := mut_append (res := r.2) (c' := r.1) h
    rfl
  · obtain ⟨xs, d, rfl, rfl, hz, rfl, rfl⟩ := mut_append h
    have dl := o.denL hv
    obtain ⟨a', ea', _, ca⟩ := r.ow i _ hi
    rw [ea] at ea'
    cases ea'
    obtain ⟨ys, hH, l⟩ := ca.list
    cases dl with
    | cons dv t =>
      cases t
      obtain ⟨g1, g2, wr⟩ := r.write (c' := .list (xs ++ [d])) hi ea (.lst (ys ++ [_]))
      exact ⟨a, ys, _, rfl, rfl, hH, by rw [l.length]; exact hz, hQ _ _ g1 (wr (.lst upd_same ((l.go g2).append (.cons (dv.go g2) .nil)))) .non⟩
theorem mut_pop {ds : List D} {c c' res : D} (h : mutF .pop c ds = some (c', res)) : ∃ xs, c = .list xs ∧ ds = [] ∧ atI xs (-1) = some res ∧ c' = .list xs.dropLast := by
  unfold mutF at h
  split at h
  all_goals first
    | cases h; done
    | (rename_i e; cases e; done)
    | skip
  rename_i xs e
  obtain ⟨d, e1, e2⟩ := Option.map_eq_some_iff.mp h
  cases e2
  exact ⟨_, rfl, rfl, e1, rfl⟩
theorem s_pop {i : Nat} {x : Str} {p ap cp : Pos} (ho : PE X (.Name x p) (tVar i)) (hline : (ap.endLine == cp.line) = true) :
    PE X (.Call (.Attribute (.Name x p) "pop" ap) [] [] cp) (tE X.K X.w C (.mut .pop i .nil)) := by
  refine s_mutG (es := .nil) PySem.F.slot_list_pop PySem.F.type_list_pop mt_pop (fun c ds r h => ?_) (fun {Z ρ σ H vs ds a c c' res Q} r hi ea o h hQ => ?_) ho True.intro rfl (by decide) hline
  · obtain ⟨xs, rfl, _⟩ := mut_pop (res := r.2) (c' := r.1) h
    rfl
  · obtain ⟨xs, rfl, rfl, hat, rfl⟩ := mut_pop h
    cases o
    obtain ⟨a', ea', _, ca⟩ := r.ow i _ hi
    rw [ea] at ea'
    cases ea'
    obtain ⟨ys, hH, l⟩ := ca.list
    obtain ⟨v, hv, dv⟩ := den_at l hat
    have e : ys[ys.length - 1]? = some v := by
      obtain ⟨k, hk, ek⟩ : ∃ k, ixN ys.length (-1) = some k ∧ ys[k]? = some v := by
        unfold atI at hv
        exact Option.bind_eq_some_iff.mp hv
      have : k = ys.length - 1 := by
        unfold ixN at hk
        split at hk <;> (split at hk <;> first | (cases hk; omega) | cases hk)
      rw [← this]; exact ek
    obtain ⟨g1, g2, wr⟩ := r.write (c' := .list xs.dropLast) hi ea (.lst ys.dropLast)
    exact ⟨a, ys, v, rfl, rfl, hH, e, hQ _ _ g1 (wr (.lst upd_same ((l.go g2).dropLast))) (dv.go g2)⟩
end
end DV
end

section
/-! extend; dict displays; stores to an item -/
namespace DV
open PySem PySem.Spec PyProof.Rows L2
section
variable {X : Cx} {C : Call}
def rExtR : V → List V → Hp → VK → Prop := fun x vs H Q => ∃ l b xs zs, x = .ref l ∧ vs = [.ref b] ∧ H l = some (.lst xs) ∧ Rd H b (.lst zs) ∧ xs.length + zs.length ≤ sizeLine ∧ Q .non (upd H l (.lst (xs ++ zs)))
theorem m_extendR : MtR X "list.extend" rExtR := by
  intro pins s σ H x vs v us Q I rx rv h
  obtain ⟨l, b, xs, zs, rfl, rfl, hH, hB, hz, q⟩ := h
  obtain ⟨u, rfl, ru⟩ := rv.one
  cases rx; cases ru
  obtain ⟨z, its, n, r, hl, e⟩ := I.lstM hH
  obtain ⟨z2, its2, n2, r2, e2⟩ := hB.ok I.hok
  have hl2 := r2.length
  have hlong : ¬ (!its.toArray.isEmpty && Builtin.List.listTooLong (its.toArray.size + its2.toArray.size)) = true := by
    rw [notLongL (by rw [List.size_toArray, List.size_toArray]; omega), Bool.and_false]
    exact Bool.false_ne_true
  refine call_meets PySem.F.slot_list_extend ⟨_, e, rfl⟩ PySem.F.entry_list_extend (PySem.F.args_list_extend_2 _ _)
    (AutoSeq1.list_extend_list_list_0 l its.toArray n b its2.toArray n2 hlong (by simp only [List.size_toArray]; omega) (by simp only [List.size_toArray]; omega)) ⟨e, e2, ?_⟩
  exact ⟨.non, _, I.lset (its' := its ++ its2) hH e (by simp) (r.append r2) (by rw [List.length_append]; omega), rfl, q⟩
theorem mut_extend {ds : List D} {c c' res : D} (h : mutF .extend c ds = some (c', res)) : ∃ xs ys, c = .list xs ∧ ds = [.list ys] ∧ xs.length + ys.length ≤ sizeLine ∧ c' = .list (xs ++ ys) ∧ res = .none := by
  unfold mutF at h
  split at h
  all_goals first
    | cases h; done
    | (rename_i e; cases e; done)
    | skip
  rename_i xs a e
  split at h
  · obtain ⟨h1, h2⟩ := ite_some h
    cases h2
    exact ⟨_, _, rfl, rfl, h1, rfl, rfl⟩
  · cases h
theorem s_extend {es : IEs} {i : Nat} {x : Str} {p ap cp : Pos} {args : List Expr} (ho : PE X (.Name x p) (tVar i)) (hx : OpsP X C es args) (ns : nostar args = true) (hl : args.length < 25) (hline : (ap.endLine == cp.line) = true) :
    PE X (.Call (.Attribute (.Name x p) "extend" ap) args [] cp) (tE X.K X.w C (.mut .extend i es)) := by
  refine s_mutG PySem.F.slot_list_extend PySem.F.type_list_extend m_extendR (fun c ds r h => ?_) (fun {Z ρ σ H vs ds a c c' res Q} r hi ea o h hQ => ?_) ho hx ns hl hline
  · obtain ⟨xs, d, rfl, _⟩ := mut_extend (res := r.2) (c' := r.1) h
    rfl
  · obtain ⟨xs, ys, rfl, rfl, hz, rfl, rfl⟩ := mut_extend h
    obtain ⟨v, rfl, dv⟩ := opsD1 o
    obtain ⟨a', ea', _, ca⟩ := r.ow i _ hi
    rw [ea] at ea'
    cases ea'
    obtain ⟨us, hH, l⟩ := ca.list
    obtain ⟨b, zs, rfl, rd, l2⟩ := dv.list
    obtain ⟨g1, g2, wr⟩ := r.write (c' := .list (xs ++ ys)) hi ea (.lst (us ++ zs))
    exact ⟨a, b, us, zs, rfl, rfl, hH, rd, by rw [l.length, l2.length]; exact hz, hQ _ _ g1 (wr (.lst upd_same ((l.go g2).append (l2.go g2)))) .non⟩

/-! ### displays of dicts -/
theorem dk_dic {K : PySem.W.Frag} {w : World} {P0 : Program} {P : Addr → Prop} {h' : Heap} {H : Hp} {a : Addr} {kvs : List (D × D)} {vs : List (Key × Value)} (k1 : KA K w P H kvs vs) (short : ∀ p ∈ kvs, ∀ y, p.1 = .str y → y.length ≤ sizeLine)
    (hz : kvs.length ≤ sizeLine) (hS : (a == sysModules) = false) (dd : h'.DictOf (mixKind P0 w) a vs) : ∃ o' es', h'.get? a = some o' ∧ DicAt (upd H a (dob a o')) a es' kvs ∧ DenE K w P H es'.toList kvs := by
  obtain ⟨o', es', ep', g1, g2, g3, g4, g5, g6⟩ := dd
  exact ⟨o', es', g1, ⟨⟨o', ep', upd_same, g2, g3⟩, hS, hz, ⟨(ka_nodup k1).mpr g6, .inl (ka_all k1)⟩⟩, ka_back k1 short g5 fun e he => g4 e (Array.mem_toList_iff.mp he)⟩
theorem s_dic0 {pos : Pos} : PE X (.Dict [] [] pos) (tE X.K X.w C (.dic .nil)) := by
  refine ⟨fun pins s σ H Q I h => ?_⟩
  obtain ⟨Z, ρ, d, ρ', r, ev, hQ⟩ := h
  cases (show some (PyData.dict [], ρ) = some (d, ρ') from ev)
  have n := I.hok.fresh (Nat.le_refl s.heap.objs.size)
  have hd : (s.heap.push { cls := .type "dict", data := .dict #[] }).DictOf (mixKind X.prog X.w) s.heap.objs.size [] := Heap.DictOf.new _
  have hS : (s.heap.objs.size == sysModules) = false := beq_eq_false_iff_ne.mpr (Ne.symm (Nat.ne_of_lt I.big))
  obtain ⟨o', es', g1, da, de⟩ := dk_dic (K := X.K) (w := X.w) (P := PP (Zp Z s.heap.objs.size) ρ σ) (H := H) .nil (fun p hp => nomatch hp) (Nat.zero_le _) hS hd
  refine wpAny_Dict_empty ⟨.ref s.heap.objs.size, upd H s.heap.objs.size (dob s.heap.objs.size o'), I.laid (a := s.heap.objs.size) (t' := s.toks) (fun _ _ q => Heap.get?_push_of_some _ q) (Nat.le_refl _) ⟨g1, ⟨_, g1⟩, fun h1 h2 e1 k => k _ e1⟩, rfl, hQ _ _ (Go.same (same_new n) fun _ q => .inl q) ?_⟩
  show Out X.K X.w Z ρ σ H _ true _ _
  unfold Out
  rw [if_pos (show (true && isCont (.dict [])) = true from rfl)]
  refine ⟨_, rfl, n, r.more (same_new n) (fun a q => q.imp id fun e => by rw [e]; exact n) fun a q => ?_, .dic da ?_⟩
  · rcases q with q | q
    · exact upd_there (r.z a q)
    · rw [q, upd_same]; simp
  · refine de.go (Go.same (same_new n) fun _ q => .inl q)
/-- its pairs, from the left -/
def trsOf (K : PySem.W.Frag) (w : World) (C : Call) : IEs → List (TE × TE)
  | .cons a (.cons b r) => (oR K w C a, oR K w C b) :: trsOf K w C r
  | _ => []
/-- keys and values in turn -/
def dicArgs : List (Option Expr) → List Expr → Option (List Expr)
  | [], [] => some []
  | some k :: ks, v :: vs => (dicArgs ks vs).map fun r => k :: v :: r
  | _, _ => none
theorem dic_pps {pos : Pos} : ∀ {es : IEs} {ks : List (Option Expr)} {vs xs : List Expr}, dicArgs ks vs = some xs → OpsP X C es xs → PPs X pos ks vs (trsOf X.K X.w C es)
  | es, [], [], xs, h, hx => by
    cases (show some [] = some xs from h)
    cases es with
    | nil => exact pps_nil
    | cons _ _ => exact hx.elim
  | es, some k :: ks, v :: vs, xs, h, hx => by
    obtain ⟨r, h1, rfl⟩ := Option.map_eq_some_iff.mp (show (dicArgs ks vs).map (fun r => k :: v :: r) = some xs from h)
    cases es with
    | nil => exact hx.elim
    | cons a es =>
      cases es with
      | nil => exact hx.2.elim
      | cons b es => exact pps_cons hx.1 hx.2.1 (dic_pps h1 hx.2.2)
  | _, none :: _, _, _, h, _ => by cases h
  | _, some _ :: _, [], _, h, _ => by cases h
  | _, [], _ :: _, _, h, _ => by cases h
theorem dicArgs_len : ∀ {ks : List (Option Expr)} {vs xs : List Expr}, dicArgs ks vs = some xs → ks.length = vs.length ∧ ks.all (·.isSome) = true
  | [], [], _, _ => ⟨rfl, rfl⟩
  | some k :: ks, v :: vs, xs, h => by
    obtain ⟨r, h1, rfl⟩ := Option.map_eq_some_iff.mp (show (dicArgs ks vs).map (fun r => k :: v :: r) = some xs from h)
    exact ⟨congrArg (· + 1) (dicArgs_len h1).1, by show (true && ks.all (·.isSome)) = true; rw [(dicArgs_len h1).2]; rfl⟩
  | none :: _, _, _, h => by cases h
  | some _ :: _, [], _, h => by cases h
  | [], _ :: _, _, h => by cases h
/-- the pairs denote -/
def PairD (K : PySem.W.Frag) (w : World) (P : Addr → Prop) (H : Hp) : List (V × V) → List (D × D) → Prop := Paired fun p q => Den K w P H p.1 q.1 ∧ Den K w P H p.2 q.2
def flatP : List (V × V) → List V
  | [] => []
  | (x, y) :: r => x :: y :: flatP r
def evenB : IEs → Bool
  | .nil => true
  | .cons _ (.cons _ r) => evenB r
  | _ => false
theorem tp_of {K : PySem.W.Frag} {w : World} : ∀ (es : IEs) {σ : L2.St} {H : Hp} {S : List V → Hp → Prop}, evenB es = true → opsR K w C es σ H S → tPairs (trsOf K w C es) σ H fun ps H' => S (flatP ps) H'
  | .nil, _, _, _, _, h => h
  | .cons a (.cons b r), σ, H, S, hv, h => oR_mono (fun x H1 q => oR_mono (fun y H2 q => tp_of r (S := fun vs H' => S (x :: y :: vs) H') hv q) q) h
  | .cons _ .nil, _, _, _, hv, _ => by cases hv
theorem pairs_den {K : PySem.W.Frag} {w : World} {P : Addr → Prop} {H : Hp} : ∀ {ps : List (V × V)} {ds : List D} {prs : List (D × D)}, DenL K w P H (flatP ps) ds → pairUp ds = some prs → PairD K w P H ps prs
  | [], ds, prs, h, e => by
    cases h
    cases (show some [] = some prs from e)
    exact .nil
  | (x, y) :: ps, ds, prs, h, e => by
    cases h with
    | cons h1 t =>
      cases t with
      | cons h2 t =>
        obtain ⟨r, e1, rfl⟩ := Option.map_eq_some_iff.mp (show (pairUp _).map _ = some prs from e)
        exact .cons ⟨h1, h2⟩ (pairs_den t e1)
/-- keys that are ints or texts -/
theorem carries_den {K : PySem.W.Frag} {w : World} {P : Addr → Prop} {H : Hp} {P0 : Program} : ∀ {ps : List (V × V)} {prs : List (D × D)} {ws : List (Value × Value)}, PairD K w P H ps prs → VV ps ws → (prs.all fun q => (atomK q.1).isSome) = true →
    ∃ rs, Carries (mixKind P0 w) ws rs ∧ KA K w P H prs rs ∧ (∀ p ∈ prs, ∀ y, p.1 = .str y → y.length ≤ sizeLine)
  | _, _, _, .nil, .nil, _ => ⟨[], True.intro, .nil, fun p hp => nomatch hp⟩
  | _, _, _, .cons (a := pv) (b := q) ⟨h1, h2⟩ t, .cons (b := u) ⟨r1, r2⟩ t', ha => by
    obtain ⟨x1, x2⟩ := pv
    rw [List.all_cons, Bool.and_eq_true] at ha
    obtain ⟨rs, c, k, sh⟩ := carries_den (P0 := P0) t t' ha.2
    obtain ⟨qk, qd⟩ := q
    obtain ⟨u1, u2⟩ := u
    obtain ⟨b, eb⟩ := Option.isSome_iff_exists.mp ha.1
    have hk : (mixKind P0 w).is b u1 = true := by
      cases qk with
      | int i =>
        cases (show some (Sum.inl i) = some b from eb)
        cases h1
        obtain ⟨t, rfl⟩ := r1
        exact kV_is (k := Sum.inl i) ⟨t, rfl⟩
      | str y =>
        cases (show some (Sum.inr y) = some b from eb)
        cases h1
        obtain ⟨t, rfl⟩ := r1
        exact kV_is (k := Sum.inr y) ⟨t, rfl⟩
      | _ => cases (show Option.none = some b from eb)
    refine ⟨(b, u2) :: rs, ⟨hk, rfl, c⟩, .cons ⟨eb, _, r2, h2⟩ k, fun p hp y e => ?_⟩
    rcases List.mem_cons.mp hp with rfl | hp
    · have e : qk = .str y := e
      subst e
      cases h1 with
      | str _ z => exact z
    · exact sh p hp y e
theorem ka_merge {K : PySem.W.Frag} {w : World} {P : Addr → Prop} {H : Hp} : ∀ {prs : List (D × D)} {rs : List (Key × Value)} {kvs kvs' : List (D × D)} {vs : List (Key × Value)}, KA K w P H prs rs → KA K w P H kvs vs → (∀ p ∈ kvs, ∀ y, p.1 = .str y → y.length ≤ sizeLine) → (∀ p ∈ prs, ∀ y, p.1 = .str y → y.length ≤ sizeLine) →
    dputs kvs prs = some kvs' → KA K w P H kvs' (merged vs rs) ∧ (∀ p ∈ kvs', ∀ y, p.1 = .str y → y.length ≤ sizeLine) ∧ kvs'.length ≤ kvs.length + prs.length
  | _, _, kvs, kvs', vs, .nil, k, s1, _, h => by
    cases (show some kvs = some kvs' from h)
    exact ⟨k, s1, Nat.le_refl _⟩
  | _, _, kvs, kvs', vs, .cons (a := p) (b := q) ⟨ea, x, rx, dx⟩ t, k, s1, s2, h => by
    obtain ⟨kvs1, h1, h⟩ := Option.bind_eq_some_iff.mp (show ((dputF kvs p.1 p.2).bind fun kvs' => dputs kvs' _) = some kvs' from h)
    have e1 : kvs1 = dput kvs p.1 p.2 := by
      unfold dputF at h1
      exact (ite_some h1).2.symm
    subst e1
    have short : ∀ z ∈ dput kvs p.1 p.2, ∀ y, z.1 = .str y → y.length ≤ sizeLine := by
      intro z hz y ey
      unfold dput at hz
      split at hz
      · obtain ⟨p0, hp0, e0⟩ := List.mem_map.mp hz
        refine s1 p0 hp0 y ?_
        rw [← ey, ← e0]
        split <;> rfl
      · rcases List.mem_append.mp hz with hz | hz
        · exact s1 z hz y ey
        · cases List.mem_singleton.mp hz
          exact s2 p List.mem_cons_self y ey
    obtain ⟨a1, a2, a3⟩ := ka_merge t (ka_put k ea rx dx) short (fun z hz => s2 z (List.mem_cons_of_mem _ hz)) h
    have := dput_len kvs p.1 p.2
    exact ⟨a1, a2, by rw [List.length_cons]; omega⟩
theorem s_dic {es : IEs} {ks : List (Option Expr)} {vs xs : List Expr} {pos : Pos} (ha : dicArgs ks vs = some xs) (hx : OpsP X C es xs) (h0 : ks ≠ []) (h15 : ks.length ≤ 15) (hv : valOps es = true) (he : evenB es = true) : PE X (.Dict ks vs pos) (tE X.K X.w C (.dic es)) := by
  obtain ⟨hl, hall⟩ := dicArgs_len ha
  refine ⟨fun pins s σ H Q I h => ?_⟩
  obtain ⟨Z, ρ, d, ρ', r, ev, hQ⟩ := h
  obtain ⟨⟨ds, ρ1⟩, e1, h⟩ := Option.bind_eq_some_iff.mp (show ((evOps C es ρ).bind fun p => (pairUp p.1).bind fun ps => if ps.length ≤ 15 && ps.all (fun q => (atomK q.1).isSome) then (dputs [] ps).map fun kvs => (PyData.dict kvs, p.2) else none) = some (d, ρ') from ev)
  obtain ⟨prs, e2, h⟩ := Option.bind_eq_some_iff.mp h
  by_cases hc : (decide (prs.length ≤ 15) && prs.all (fun q => (atomK q.1).isSome)) = true
  · rw [if_pos hc] at h
    rw [Bool.and_eq_true] at hc
    obtain ⟨kvs, e3, h⟩ := Option.map_eq_some_iff.mp h
    cases h
    have n := I.hok.fresh (Nat.le_refl s.heap.objs.size)
    generalize hp : s.heap.objs.size = p at n
    have I1 : Inv X pins σ (upd H p (.dK [])) { s with heap := s.heap.push { cls := .type "dict", data := .dict #[] } } := I.laid (a := p) (o := .dK []) (h' := s.heap.push { cls := .type "dict", data := .dict #[] }) (t' := s.toks) (fun _ _ q => Heap.get?_push_of_some _ q) (Nat.le_of_eq hp) (by rw [← hp]; exact dk_empty s.heap I.big)
    have r1 : Rel X.K X.w (Zp Z p) ρ σ (upd H p (.dK [])) := r.more (same_new n) (fun a q => q.imp id fun e => by rw [e]; exact n) fun a q => by
      rcases q with q | q
      · exact upd_there (r.z a q)
      · rw [q, upd_same]; simp
    have pairs := tp_of (C := C) es he (ops_ok (Q := fun us H' => Go (Ow ρ σ) (upd H p (.dK [])) (Ow ρ1 σ) H' ∧ Rel X.K X.w (Zp Z p) ρ1 σ H' ∧ DenL X.K X.w (PP (Zp Z p) ρ1 σ) H' us ds) es r1 e1 fun us H' g r' o => ⟨g, r', o.denL hv⟩)
    refine wpAny_Dict_walk (knd := mixKind X.prog X.w) hall hl h0 h15 (thn ((dic_pps ha hx).run pins _ σ _ _ I1 pairs) fun ws s2 ⟨ps, H2, I2, rel, g, r', dl⟩ => ?_)
    rw [hp]
    have pz : Zp Z p p := .inr rfl
    have npo : ∀ {q : Ro}, Rel X.K X.w (Zp Z p) q σ H2 → ¬ Ow q σ p := fun {q} rq z => by
      obtain ⟨i, d, h1, h2⟩ := z
      obtain ⟨a, ea, na, _⟩ := rq.ow i d h1
      rw [h2] at ea
      cases ea
      exact na pz
    have npo0 : ¬ Ow ρ σ p := fun z => by
      obtain ⟨i, d, h1, h2⟩ := z
      obtain ⟨a, ea, na, _⟩ := r1.ow i d h1
      rw [h2] at ea
      cases ea
      exact na pz
    have hH2 : H2 p = some (.dK []) := g.keep p _ upd_same npo0
    obtain ⟨rs, c, k, sh⟩ := carries_den (P0 := X.prog) (pairs_den dl e2) rel hc.2
    obtain ⟨z, hd, vs0, q0, dd⟩ := I2.hok p _ hH2
    cases q0
    refine ⟨rs, c, dd, fun h' dd' hs => ?_⟩
    obtain ⟨k1, k2, k3⟩ := ka_merge k .nil (fun p hp => nomatch hp) sh e3
    have hz : kvs.length ≤ sizeLine := by
      have := of_decide_eq_true hc.1
      rw [List.length_nil] at k3
      rw [sizeLine_eq]
      omega
    obtain ⟨o', es', g1, da, de⟩ := dk_dic (H := H2) k1 k2 hz hd dd'
    obtain ⟨gg, r2⟩ := r'.apart pz (dob p o')
    refine ⟨.ref p, upd H2 p (dob p o'), I2.write (x := p) (e := p) (by rw [hH2]; exact True.intro) (.inl rfl) (fun b q hb z => (hs.2 b hb).trans z) ⟨_, g1⟩ ⟨g1, ⟨_, g1⟩, fun h1 h2 e1 k => k _ e1⟩, rfl, hQ _ _ (Go.over (Go.first n g (npo r')) n) ?_⟩
    unfold Out
    rw [if_pos (show (freshE (.dic es) && isCont (.dict kvs)) = true from rfl)]
    exact ⟨p, rfl, n, r2, .dic da (de.go gg)⟩
  · rw [if_neg hc] at h; cases h
end
end DV
end

section
/-! what a loop walks -/
namespace DV
open PySem PySem.Spec PyProof.Rows L2

structure Walk (K : PySem.W.Frag) (w : World) (P : Addr → Prop) (H : Hp) (J : L2.It) (xs : List D) : Prop where
  go : ∀ P' H', Go P H P' H' → ∀ i, i < xs.length → J.go i H'
  stop : ∀ P' H', Go P H P' H' → J.stop xs.length H'
  yld : ∀ P' H', Go P H P' H' → PIn P' H' → ∀ i d, xs[i]? = some d → ∀ x H'', J.yld i H' x H'' → Same H' H'' ∧ Den K w P' H'' x d
def tI (K : PySem.W.Frag) (w : World) (C : Call) (it : It) : TI := fun σ H R => ∃ Z ρ xs ρ', Rel K w Z ρ σ H ∧ evI C it ρ = some (xs, ρ') ∧ ∀ J H', Go (Ow ρ σ) H (Ow ρ' σ) H' → Rel K w Z ρ' σ H' → Walk K w (PP Z ρ' σ) H' J xs → R J H'
section
variable {K : PySem.W.Frag} {w : World} {P : Addr → Prop} {H : Hp} {ds : List D}
theorem rd_keep {a : Addr} {u : HO} {P' : Addr → Prop} {H' : Hp} (g : Go P H P' H') (n : ¬ P a) (r : Rd H a u) : Rd H' a u := (rd_go g n r).1
theorem rd_lst {a : Addr} {xs ys : List V} (h : Rd H a (.lst xs)) (h' : Rd H a (.lst ys)) : xs = ys := by
  rcases h with h | ⟨o, h⟩ <;> rcases h' with h' | ⟨o', h'⟩ <;> (rw [h] at h'; first | (cases h'; rfl) | cases h')
theorem walk_list {a : Addr} {xs : List V} (n : ¬ P a) (r : Rd H a (.lst xs)) (l : DenL K w P H xs ds) : Walk K w P H (Itl K a) ds := by
  refine ⟨fun P' H' g i hi => ?_, fun P' H' g => ⟨xs, .inl (rd_keep g n r), by rw [l.length]; exact Nat.le_refl _⟩, fun P' H' g _ i d hd x H'' y => ?_⟩
  · obtain ⟨v, hv⟩ : ∃ v, xs[i]? = some v := ⟨_, List.getElem?_eq_getElem (by rw [l.length]; exact hi)⟩
    exact ⟨xs, v, .inl (rd_keep g n r), hv⟩
  · obtain ⟨e, y⟩ := y
    subst e
    obtain ⟨v, hv, dv⟩ := l.get' hd
    have := y xs (.inl (rd_keep g n r))
    rw [hv] at this
    cases this
    exact ⟨Same.refl _, dv.go g⟩
theorem walk_tup {a : Addr} {xs : List V} (r : ∀ P' H', Go P H P' H' → SqT K H' a xs) (l : DenL K w P H xs ds) : Walk K w P H (Itt K a) ds := by
  refine ⟨fun P' H' g i hi => ?_, fun P' H' g => ⟨xs, r _ _ g, by rw [l.length]; exact Nat.le_refl _⟩, fun P' H' g _ i d hd x H'' y => ?_⟩
  · obtain ⟨v, hv⟩ : ∃ v, xs[i]? = some v := ⟨_, List.getElem?_eq_getElem (by rw [l.length]; exact hi)⟩
    exact ⟨xs, v, r _ _ g, hv⟩
  · obtain ⟨e, y⟩ := y
    subst e
    obtain ⟨v, hv, dv⟩ := l.get' hd
    have := y xs (r _ _ g)
    rw [hv] at this
    cases this
    exact ⟨Same.refl _, dv.go g⟩
theorem walk_str {x : Str} : Walk K w P H (Its x) (x.cps.toList.map fun c => .str ⟨#[c]⟩) := by
  have hl : (x.cps.toList.map fun c => (PyData.str ⟨#[c]⟩ : D)).length = x.cps.size := by rw [List.length_map, Array.length_toList]
  refine ⟨fun P' H' g i hi => by rw [hl] at hi; exact hi, fun P' H' g => by rw [hl]; exact Nat.le_refl _, fun P' H' g _ i d hd v H'' y => ?_⟩
  obtain ⟨e, c, hc, rfl⟩ := y
  subst e
  rw [List.getElem?_map, Array.getElem?_toList, hc] at hd
  cases hd
  exact ⟨Same.refl _, .str _ (by show 1 ≤ sizeLine; rw [sizeLine_eq]; decide)⟩
theorem rangeI_at {lo st : Int} {n i : Nat} {d : D} (h : (rangeI lo n st)[i]? = some d) : d = .int (lo + i * st) ∧ i < n := by
  unfold rangeI at h
  rw [List.getElem?_map] at h
  obtain ⟨k, hk, rfl⟩ := Option.map_eq_some_iff.mp h
  obtain ⟨hlt, e⟩ := List.getElem?_eq_some_iff.mp hk
  rw [List.getElem_range] at e
  subst e
  exact ⟨rfl, by simpa using hlt⟩
theorem rangeI_len {lo st : Int} {n : Nat} : (rangeI lo n st).length = n := by
  unfold rangeI
  rw [List.length_map, List.length_range]
theorem walk_rng {lo : Int} {n : Nat} : Walk K w P H (Itr lo n) (rangeI lo n 1) := by
  refine ⟨fun P' H' g i hi => by rw [rangeI_len] at hi; exact hi, fun P' H' g => by rw [rangeI_len]; exact Nat.le_refl _, fun P' H' g _ i d hd v H'' y => ?_⟩
  obtain ⟨e, rfl⟩ := y
  subst e
  obtain ⟨rfl, _⟩ := rangeI_at hd
  rw [Int.mul_one]
  exact ⟨Same.refl _, .int _⟩
theorem walk_rngC {lo c : Int} {n : Nat} : Walk K w P H (Itc lo c n) (rangeI lo n c) := by
  refine ⟨fun P' H' g i hi => by rw [rangeI_len] at hi; exact hi, fun P' H' g => by rw [rangeI_len]; exact Nat.le_refl _, fun P' H' g _ i d hd v H'' y => ?_⟩
  obtain ⟨e, rfl⟩ := y
  subst e
  obtain ⟨rfl, _⟩ := rangeI_at hd
  exact ⟨Same.refl _, .int _⟩
/-- new pairs -/
theorem pair_new {P' : Addr → Prop} {H' : Hp} {T : Addr} {x y : V} {dx dy : D} (hp : PIn P' H') (n : H' T = none) (h1 : Den K w P' H' x dx) (h2 : Den K w P' H' y dy) : Same H' (upd H' T (.tup [x, y])) ∧ Den K w P' (upd H' T (.tup [x, y])) (.ref T) (.tuple [dx, dy]) := by
  have g : Go P' H' P' (upd H' T (.tup [x, y])) := Go.same (same_new n) fun _ q => .inl q
  exact ⟨same_new n, .tup (fun q => hp T q n) (.inl upd_same) (.cons (h1.go g) (.cons (h2.go g) .nil))⟩
theorem walk_enum {a : Addr} {xs : List V} (n : ¬ P a) (r : Rd H a (.lst xs)) (l : DenL K w P H xs ds) : Walk K w P H (Ite K a) (enumD ds) := by
  have hl : (enumD ds).length = ds.length := by unfold enumD; rw [List.length_zipWith, List.length_range, Nat.min_self]
  refine ⟨fun P' H' g i hi => ?_, fun P' H' g => ⟨xs, .inl (rd_keep g n r), by rw [hl, l.length]; exact Nat.le_refl _⟩, fun P' H' g hp i d hd x H'' y => ?_⟩
  · rw [hl] at hi
    obtain ⟨v, hv⟩ : ∃ v, xs[i]? = some v := ⟨_, List.getElem?_eq_getElem (by rw [l.length]; exact hi)⟩
    exact ⟨xs, v, .inl (rd_keep g n r), hv⟩
  · obtain ⟨T, v, rfl, nT, rfl, y⟩ := y
    have hi : i < ds.length := by rw [← hl]; exact (List.getElem?_eq_some_iff.mp hd).1
    obtain ⟨v', hv, dv⟩ := l.get' (List.getElem?_eq_getElem hi)
    have e := y xs (.inl (rd_keep g n r))
    rw [hv] at e
    cases e
    have ed : d = .tuple [.int (i : Nat), ds[i]] := by
      unfold enumD at hd
      rw [List.getElem?_zipWith, List.getElem?_range hi, List.getElem?_eq_getElem hi] at hd
      exact (Option.some.inj hd).symm
    rw [ed]
    exact pair_new hp nT (.int _) (dv.go g)
theorem zipD_len {xs ys : List D} : (zipD xs ys).length = min xs.length ys.length := by unfold zipD; rw [List.length_map, List.length_zip]
theorem zipD_at {xs ys : List D} {i : Nat} {d : D} (h : (zipD xs ys)[i]? = some d) : ∃ x y, xs[i]? = some x ∧ ys[i]? = some y ∧ d = .tuple [x, y] := by
  unfold zipD at h
  rw [List.getElem?_map] at h
  obtain ⟨⟨x, y⟩, e, rfl⟩ := Option.map_eq_some_iff.mp h
  rw [List.getElem?_zip_eq_some] at e
  exact ⟨x, y, e.1, e.2, rfl⟩
theorem walk_zip {a b : Addr} {xs ys : List V} {es : List D} (n : ¬ P a) (r : Rd H a (.lst xs)) (l : DenL K w P H xs ds) (n2 : ¬ P b) (r2 : Rd H b (.lst ys)) (l2 : DenL K w P H ys es) : Walk K w P H (Itz K a b) (zipD ds es) := by
  refine ⟨fun P' H' g i hi => ?_, fun P' H' g => ?_, fun P' H' g hp i d hd x H'' y => ?_⟩
  · rw [zipD_len] at hi
    obtain ⟨v, hv⟩ : ∃ v, xs[i]? = some v := ⟨_, List.getElem?_eq_getElem (by rw [l.length]; omega)⟩
    obtain ⟨v2, hv2⟩ : ∃ v, ys[i]? = some v := ⟨_, List.getElem?_eq_getElem (by rw [l2.length]; omega)⟩
    exact ⟨xs, ys, v, v2, .inl (rd_keep g n r), .inl (rd_keep g n2 r2), hv, hv2⟩
  · refine ⟨xs, ys, .inl (rd_keep g n r), .inl (rd_keep g n2 r2), ?_⟩
    rw [zipD_len, l.length, l2.length]
    omega
  · obtain ⟨T, v, v2, rfl, nT, rfl, y1, y2⟩ := y
    obtain ⟨dx, dy, e1, e2, rfl⟩ := zipD_at hd
    obtain ⟨u1, hu1, du1⟩ := l.get' e1
    obtain ⟨u2, hu2, du2⟩ := l2.get' e2
    have q1 := y1 xs (.inl (rd_keep g n r))
    have q2 := y2 ys (.inl (rd_keep g n2 r2))
    rw [hu1] at q1; cases q1
    rw [hu2] at q2; cases q2
    exact pair_new hp nT (du1.go g) (du2.go g)
theorem walk_zipT {a b : Addr} {xs ys : List V} {es : List D} (r : ∀ P' H', Go P H P' H' → SqT K H' a xs) (l : DenL K w P H xs ds) (r2 : ∀ P' H', Go P H P' H' → SqT K H' b ys) (l2 : DenL K w P H ys es) : Walk K w P H (RZ.ItzT K a b) (zipD ds es) := by
  refine ⟨fun P' H' g i hi => ?_, fun P' H' g => ?_, fun P' H' g hp i d hd x H'' y => ?_⟩
  · rw [zipD_len] at hi
    obtain ⟨v, hv⟩ : ∃ v, xs[i]? = some v := ⟨_, List.getElem?_eq_getElem (by rw [l.length]; omega)⟩
    obtain ⟨v2, hv2⟩ : ∃ v, ys[i]? = some v := ⟨_, List.getElem?_eq_getElem (by rw [l2.length]; omega)⟩
    exact ⟨xs, ys, v, v2, r _ _ g, r2 _ _ g, hv, hv2⟩
  · refine ⟨xs, ys, r _ _ g, r2 _ _ g, ?_⟩
    rw [zipD_len, l.length, l2.length]
    omega
  · obtain ⟨T, v, v2, rfl, nT, rfl, y1, y2⟩ := y
    obtain ⟨dx, dy, e1, e2, rfl⟩ := zipD_at hd
    obtain ⟨u1, hu1, du1⟩ := l.get' e1
    obtain ⟨u2, hu2, du2⟩ := l2.get' e2
    have q1 := y1 xs (r _ _ g)
    have q2 := y2 ys (r2 _ _ g)
    rw [hu1] at q1; cases q1
    rw [hu2] at q2; cases q2
    exact pair_new hp nT (du1.go g) (du2.go g)
/-- a list, a tuple that is no slot's own -/
theorem den_list {v : V} (h : Den K w P H v (.list ds)) : ∃ a xs, v = .ref a ∧ ¬ P a ∧ Rd H a (.lst xs) ∧ DenL K w P H xs ds := by
  cases h with
  | lst n r l => exact ⟨_, _, rfl, n, r, l⟩
theorem den_tup {v : V} (h : Den K w P H v (.tuple ds)) : ∃ a xs, v = .ref a ∧ (∀ P' H', Go P H P' H' → SqT K H' a xs) ∧ DenL K w P H xs ds := by
  cases h with
  | tup n r l => exact ⟨_, _, rfl, fun P' H' g => .inl (rd_keep g n r), l⟩
  | tupK r l => exact ⟨_, _, rfl, fun P' H' g => r H', l⟩
end
section
variable {X : Cx} {C : Call}
/-- a value that is walked -/
def iVal (K : PySem.W.Frag) (te : TE) : TI := fun σ H R => te σ H fun x H1 => (∃ a, x = .ref a ∧ (∃ xs, SqL K H1 a xs) ∧ R (Itl K a) H1) ∨ (∃ a, x = .ref a ∧ (∃ xs, SqT K H1 a xs) ∧ R (Itt K a) H1) ∨ ∃ y, x = .str y ∧ R (Its y) H1
theorem pi_val {tg e : Expr} {te : TE} (he : PE X e te) : PI X tg e (iVal X.K te) := by
  refine ⟨fun pins s σ H R I h => ?_⟩
  refine thn (he.run pins s σ H _ I h) fun v s1 ⟨x, H1, I1, r1, q⟩ => ?_
  rcases q with ⟨a, rfl, ⟨xs, hq⟩, q⟩ | ⟨a, rfl, ⟨xs, hq⟩, q⟩ | ⟨y, rfl, q⟩
  · cases r1
    obtain ⟨its, rv, p, hz⟩ := I1.list hq
    exact wpAny_pyIter_list p.isList (pi_one (tk := s1.toks) I1 _ (turn_list a _) ⟨_, Heap.get?_push_size _ rfl, rfl, rfl⟩ q)
  · cases r1
    obtain ⟨its, rv, p, hz⟩ := I1.tuple hq
    exact wpAny_pyIter_tuple (show s1.heap.IsTuple a its.toArray from p) (pi_one (tk := s1.toks) I1 _ (turn_tuple a _) ⟨_, Heap.get?_push_size _ rfl, rfl, rfl⟩ q)
  · obtain ⟨t, rfl⟩ := r1
    cases ha : y.cps.all (· < 128)
    · exact wpAny_pyIter_wide ha (pi_one (tk := s1.toks) I1 _ (turn_str _ y t "str_iterator" (.inr rfl)) ⟨_, Heap.get?_push_size _ rfl, rfl, rfl⟩ q)
    · exact wpAny_pyIter_ascii ha (pi_one (tk := s1.toks) I1 _ (turn_str _ y t "str_ascii_iterator" (.inl rfl)) ⟨_, Heap.get?_push_size _ rfl, rfl, rfl⟩ q)
theorem _root_.L2.PI.weaken {tg e : Expr} {t t' : TI} (h : PI X tg e t) (m : ∀ σ H R, t' σ H R → t σ H R) : PI X tg e t' := ⟨fun pins s σ H R I q => h.run pins s σ H R I (m σ H R q)⟩
theorem i_val {tg x : Expr} {e : IE} (h : PE X x (tE X.K X.w C e)) : PI X tg x (tI X.K X.w C (.val e)) := by
  refine (pi_val h).weaken fun σ H R q => ?_
  obtain ⟨Z, ρ, xs, ρ', r, ev, hR⟩ := q
  obtain ⟨⟨d, ρ1⟩, e1, h⟩ := Option.bind_eq_some_iff.mp (show ((evE C e ρ).bind fun p => (iterD p.1).map fun xs => (xs, p.2)) = some (xs, ρ') from ev)
  obtain ⟨ys, e2, h⟩ := Option.map_eq_some_iff.mp h
  cases h
  refine ⟨Z, ρ, d, ρ1, r, e1, fun v H' g o => ?_⟩
  obtain ⟨r', dv⟩ := o.den r
  cases d with
  | list ds =>
    cases (show some ds = some xs from e2)
    obtain ⟨a, us, rfl, n, rd, l⟩ := den_list dv
    exact .inl ⟨a, rfl, ⟨us, .inl rd⟩, hR _ H' g r' (walk_list n rd l)⟩
  | tuple ds =>
    cases (show some ds = some xs from e2)
    obtain ⟨a, us, rfl, rd, l⟩ := den_tup dv
    exact .inr (.inl ⟨a, rfl, ⟨us, rd _ _ Go.refl⟩, hR _ H' g r' (walk_tup rd l)⟩)
  | str y =>
    obtain ⟨hl, e3⟩ := ite_some (show (if y.length ≤ sizeLine then some (y.cps.toList.map fun c => PyData.str ⟨#[c]⟩) else none) = some xs from e2)
    subst e3
    cases dv
    exact .inr (.inr ⟨y, rfl, hR _ H' g r' walk_str⟩)
  | _ => cases (show Option.none = some xs from e2)
theorem rngIn_iff {i : Int} (h : rngIn i = true) : -(2 ^ 62) ≤ i ∧ i < 2 ^ 62 := by
  unfold rngIn at h
  have h := of_decide_eq_true h
  omega
theorem rs_le {lo hi st : Int} (h3 : st ≠ 0) : 0 ≤ Builtin.Range.rangeSize lo hi st ∧ Builtin.Range.rangeSize lo hi st ≤ (hi - lo).natAbs := by
  unfold Builtin.Range.rangeSize
  by_cases c : st > 0
  · rw [if_pos c]
    by_cases d : lo < hi
    · rw [if_pos d]
      have h1 : 0 ≤ (hi - lo - 1) / st := Int.ediv_nonneg (by omega) (by omega)
      have h2 : (hi - lo - 1) / st ≤ hi - lo - 1 := Int.ediv_le_self _ (by omega)
      omega
    · rw [if_neg d]; omega
  · rw [if_neg c]
    by_cases d : lo > hi
    · rw [if_pos d]
      have h1 : 0 ≤ (lo - hi - 1) / (-st) := Int.ediv_nonneg (by omega) (by omega)
      have h2 : (lo - hi - 1) / (-st) ≤ lo - hi - 1 := Int.ediv_le_self _ (by omega)
      omega
    · rw [if_neg d]; omega
theorem rng_small {lo hi st : Int} (h1 : rngIn lo = true) (h2 : rngIn hi = true) (h3 : st ≠ 0) (h4 : st.natAbs < 1073741824) : Builtin.Range.small lo hi st = true ∧ 0 ≤ Builtin.Range.rangeSize lo hi st := by
  obtain ⟨a1, a2⟩ := rngIn_iff h1
  obtain ⟨b1, b2⟩ := rngIn_iff h2
  obtain ⟨c1, c2⟩ := rs_le (lo := lo) (hi := hi) h3
  refine ⟨?_, c1⟩
  unfold Builtin.Range.small
  simp only [Builtin.Range.rangeFitsLong, Bool.and_eq_true, Bool.or_eq_true, decide_eq_true_eq, beq_iff_eq]
  refine ⟨⟨⟨⟨?_, ?_⟩, ?_⟩, ?_⟩, .inr ?_⟩
  · omega
  · omega
  · omega
  · omega
  · split <;> (simp only [Bool.and_eq_true, decide_eq_true_eq]; omega)
theorem ioF_cons (e : IE) (es : IEs) : (ioF (.cons e es)).length = (ioF es).length + 1 := by cases e <;> rfl
theorem len1 {α : Type} {l : List α} (h : l.length = 1) : ∃ a, l = [a] := by
  match l, h with
  | [a], _ => exact ⟨a, rfl⟩
theorem len2 {α : Type} {l : List α} (h : l.length = 2) : ∃ a b, l = [a, b] := by
  match l, h with
  | [a, b], _ => exact ⟨a, b, rfl⟩
theorem len3 {α : Type} {l : List α} (h : l.length = 3) : ∃ a b c, l = [a, b, c] := by
  match l, h with
  | [a, b, c], _ => exact ⟨a, b, c, rfl⟩
def isI : D → Bool
  | .int _ => true
  | _ => false
theorem isI_of {d : D} (h : isI d = true) : ∃ i, d = .int i := by
  cases d <;> first | exact ⟨_, rfl⟩ | cases h
theorem rng_ints {ds xs : List D} (h : rngF ds = some xs) : ds.all isI = true := by
  unfold rngF at h
  split at h <;> first | rfl | cases h
theorem i_rng1 {tg x : Expr} {es : IEs} {p pos : Pos} (hg : Gl X "range") (hm : X.mg "range" = none) (hx : OpsP X C es [x]) (ns : starB x = false) : PI X tg (.Call (.Name "range" p) [x] [] pos) (tI X.K X.w C (.rng es)) := by
  have hs : starEach [x] X.env = [(false, eval x X.env)] := star_cons ns
  have nn : nostar [x] = true := by unfold nostar; rw [List.all_cons, ns]; rfl
  refine (pi_range1 hg hm (hx.pa nn) hs).weaken fun σ H R q => ?_
  obtain ⟨Z, ρ, xs, ρ', r, ev, hR⟩ := q
  obtain ⟨⟨ds, ρ1⟩, e1, h⟩ := Option.bind_eq_some_iff.mp (show ((evOps C es ρ).bind fun p => (rngF p.1).map fun xs => (xs, p.2)) = some (xs, ρ') from ev)
  obtain ⟨ys, e2, h⟩ := Option.map_eq_some_iff.mp h
  cases h
  refine ops_ok es r e1 fun vs H' g r' o => ?_
  obtain ⟨e, rfl, _⟩ := hx.one
  obtain ⟨d, rfl⟩ := len1 (show ds.length = 1 by rw [o.len.2, ioF_cons]; rfl)
  have q := rng_ints e2
  rw [List.all_cons, Bool.and_eq_true] at q
  obtain ⟨hi, rfl⟩ := isI_of q.1
  obtain ⟨hc, e3⟩ := ite_some (show (if rngIn hi then some (rangeI 0 hi.toNat 1) else none) = some xs from e2)
  subst e3
  obtain ⟨v, rfl, dv⟩ := den1 o.dens
  obtain ⟨h1, h2⟩ := rngIn_iff hc
  exact ⟨hi, by rw [dv.int], h1, h2, hR _ H' g r' walk_rng⟩
theorem i_rng2 {tg x y : Expr} {es : IEs} {p pos : Pos} (hg : Gl X "range") (hm : X.mg "range" = none) (hx : OpsP X C es [x, y]) (n1 : starB x = false) (n2 : starB y = false) : PI X tg (.Call (.Name "range" p) [x, y] [] pos) (tI X.K X.w C (.rng es)) := by
  have hs2 : starEach [y] X.env = [(false, eval y X.env)] := star_cons n2
  have hs : starEach [x, y] X.env = [(false, eval x X.env), (false, eval y X.env)] := by rw [star_cons n1, hs2]
  have nn : nostar [x, y] = true := by unfold nostar; rw [List.all_cons, List.all_cons, n1, n2]; rfl
  refine (pi_range2 hg hm (hx.pa nn) hs hs2).weaken fun σ H R q => ?_
  obtain ⟨Z, ρ, xs, ρ', r, ev, hR⟩ := q
  obtain ⟨⟨ds, ρ1⟩, e1, h⟩ := Option.bind_eq_some_iff.mp (show ((evOps C es ρ).bind fun p => (rngF p.1).map fun xs => (xs, p.2)) = some (xs, ρ') from ev)
  obtain ⟨ys, e2, h⟩ := Option.map_eq_some_iff.mp h
  cases h
  refine ops_ok es r e1 fun vs H' g r' o => ?_
  obtain ⟨e, f, rfl, _, _⟩ := hx.two
  obtain ⟨d1, d2, rfl⟩ := len2 (show ds.length = 2 by rw [o.len.2, ioF_cons, ioF_cons]; rfl)
  have q := rng_ints e2
  rw [List.all_cons, List.all_cons, Bool.and_eq_true, Bool.and_eq_true] at q
  obtain ⟨lo, rfl⟩ := isI_of q.1
  obtain ⟨hi, rfl⟩ := isI_of q.2.1
  obtain ⟨hc, e3⟩ := ite_some (show (if rngIn lo && rngIn hi then some (rangeI lo (hi - lo).toNat 1) else none) = some xs from e2)
  subst e3
  obtain ⟨v, u, rfl, dv, du⟩ := den2 o.dens
  rw [Bool.and_eq_true] at hc
  obtain ⟨h1, h2⟩ := rngIn_iff hc.1
  obtain ⟨h3, h4⟩ := rngIn_iff hc.2
  exact ⟨lo, hi, by rw [dv.int, du.int], ⟨h1, h2, h3, h4⟩, hR _ H' g r' walk_rng⟩
theorem i_rng3 {tg x y z : Expr} {es : IEs} {p pos : Pos} (hg : Gl X "range") (hm : X.mg "range" = none) (hx : OpsP X C es [x, y, z]) (nn : nostar [x, y, z] = true) : PI X tg (.Call (.Name "range" p) [x, y, z] [] pos) (tI X.K X.w C (.rng es)) := by
  obtain ⟨n1, n2⟩ := nostar_cons nn
  refine (pi_range3 hg hm (hx.pa nn) (star_cons n1) (no_any n2)).weaken fun σ H R q => ?_
  obtain ⟨Z, ρ, xs, ρ', r, ev, hR⟩ := q
  obtain ⟨⟨ds, ρ1⟩, e1, h⟩ := Option.bind_eq_some_iff.mp (show ((evOps C es ρ).bind fun p => (rngF p.1).map fun xs => (xs, p.2)) = some (xs, ρ') from ev)
  obtain ⟨ys, e2, h⟩ := Option.map_eq_some_iff.mp h
  cases h
  refine ops_ok es r e1 fun vs H' g r' o => ?_
  obtain ⟨e, f, k, rfl, _, _, _⟩ := hx.three
  obtain ⟨d1, d2, d3, rfl⟩ := len3 (show ds.length = 3 by rw [o.len.2, ioF_cons, ioF_cons, ioF_cons]; rfl)
  have q := rng_ints e2
  rw [List.all_cons, List.all_cons, List.all_cons, Bool.and_eq_true, Bool.and_eq_true, Bool.and_eq_true] at q
  obtain ⟨lo, rfl⟩ := isI_of q.1
  obtain ⟨hi, rfl⟩ := isI_of q.2.1
  obtain ⟨st, rfl⟩ := isI_of q.2.2.1
  have e2 : (if (rngIn lo && rngIn hi && decide (st ≠ 0) && decide (st.natAbs < 1073741824)) = true then some (rangeI lo (Builtin.Range.rangeSize lo hi st).toNat st) else none) = some xs := by
    unfold rngF at e2
    exact e2
  obtain ⟨hc, e3⟩ := ite_some e2
  subst e3
  obtain ⟨v, u, t, rfl, dv, du, dt⟩ := den3 o.dens
  rw [Bool.and_eq_true, Bool.and_eq_true, Bool.and_eq_true] at hc
  obtain ⟨⟨⟨h1, h2⟩, h3⟩, h4⟩ := hc
  obtain ⟨k1, k2⟩ := rng_small h1 h2 (of_decide_eq_true h3) (of_decide_eq_true h4)
  exact ⟨lo, hi, st, _, by rw [dv.int, du.int, dt.int], ⟨of_decide_eq_true h3, of_decide_eq_true h4, k1, (Int.toNat_of_nonneg k2).symm⟩, hR _ H' g r' walk_rngC⟩
theorem i_enum {x : Expr} {e : IE} {p pos tpos : Pos} {elts : List Expr} {kk : Nat} (hg : Gl X "enumerate") (hm : X.mg "enumerate" = none) (h : PE X x (tE X.K X.w C e)) (ns : starB x = false) : PI X (.Tuple elts kk tpos) (.Call (.Name "enumerate" p) [x] [] pos) (tI X.K X.w C (.enum e)) := by
  have hs : starEach [x] X.env = [(false, eval x X.env)] := star_cons ns
  refine (pi_enum hg hm (pa_cons h pa_nil hs) hs).weaken fun σ H R q => ?_
  obtain ⟨Z, ρ, xs, ρ', r, ev, hR⟩ := q
  obtain ⟨⟨d, ρ1⟩, e1, h⟩ := Option.bind_eq_some_iff.mp (show ((evE C e ρ).bind fun p => (lstOf p.1).map fun xs => (enumD xs, p.2)) = some (xs, ρ') from ev)
  obtain ⟨ys, e2, h⟩ := Option.map_eq_some_iff.mp h
  cases h
  refine ⟨Z, ρ, d, ρ1, r, e1, fun v H' g o => ?_⟩
  obtain ⟨r', dv⟩ := o.den r
  cases d with
  | list ds =>
    cases (show some ds = some ys from e2)
    obtain ⟨a, us, rfl, n, rd, l⟩ := den_list dv
    exact ⟨a, us, rfl, .inl rd, hR _ H' g r' (walk_enum n rd l)⟩
  | _ => cases (show Option.none = some ys from e2)
theorem i_zip {x y : Expr} {a b : IE} {p pos tpos : Pos} {elts : List Expr} {kk : Nat} (hg : Gl X "zip") (hm : X.mg "zip" = none) (hx : PE X x (tE X.K X.w C a)) (hy : PE X y (tE X.K X.w C b)) (n1 : starB x = false) (n2 : starB y = false) :
    PI X (.Tuple elts kk tpos) (.Call (.Name "zip" p) [x, y] [] pos) (tI X.K X.w C (.zip a b)) := by
  have hs2 : starEach [y] X.env = [(false, eval y X.env)] := star_cons n2
  have hs : starEach [x, y] X.env = (false, eval x X.env) :: starEach [y] X.env := star_cons n1
  refine (RZ.pi_zipA hg hm (pa_cons hx (pa_cons hy pa_nil hs2) hs) hs (by rw [hs2]; rfl)).weaken fun σ H R q => ?_
  obtain ⟨Z, ρ, xs, ρ', r, ev, hR⟩ := q
  obtain ⟨⟨d, ρ1⟩, e1, h⟩ := Option.bind_eq_some_iff.mp (show ((evE C a ρ).bind fun p => (evE C b p.2).bind fun q => (seqOf p.1).bind fun xs => (seqOf q.1).bind fun ys => if kindD p.1 = kindD q.1 then some (zipD xs ys, q.2) else none) = some (xs, ρ') from ev)
  obtain ⟨⟨d2, ρ2⟩, e2, h⟩ := Option.bind_eq_some_iff.mp h
  obtain ⟨us, e3, h⟩ := Option.bind_eq_some_iff.mp h
  obtain ⟨ws, e4, h⟩ := Option.bind_eq_some_iff.mp h
  obtain ⟨hk, h⟩ := ite_some h
  cases h
  refine ⟨Z, ρ, d, ρ1, r, e1, fun v H1 g1 o1 => ?_⟩
  obtain ⟨r1, dv1⟩ := o1.den r
  refine ⟨Z, ρ1, d2, ρ2, r1, e2, fun v2 H2 g2 o2 => ?_⟩
  obtain ⟨r2, dv2⟩ := o2.den r1
  have dv1 := dv1.go (g2.pp (Z := Z) (Z' := Z) fun _ q => .inl q)
  cases d with
  | list ds =>
    cases d2 with
    | list ds2 =>
      cases (show some ds = some us from e3)
      cases (show some ds2 = some ws from e4)
      obtain ⟨a, us, rfl, n, rd, l⟩ := den_list dv1
      obtain ⟨a2, us2, rfl, nn2, rd2, l2⟩ := den_list dv2
      exact ⟨a, a2, us, us2, rfl, .inl ⟨.inl rd, .inl rd2, hR _ H2 (g1.trans g2) r2 (walk_zip n rd l nn2 rd2 l2)⟩⟩
    | _ => cases hk
  | tuple ds =>
    cases d2 with
    | tuple ds2 =>
      cases (show some ds = some us from e3)
      cases (show some ds2 = some ws from e4)
      obtain ⟨a, us, rfl, rd, l⟩ := den_tup dv1
      obtain ⟨a2, us2, rfl, rd2, l2⟩ := den_tup dv2
      exact ⟨a, a2, us, us2, rfl, .inr ⟨rd _ _ Go.refl, rd2 _ _ Go.refl, hR _ H2 (g1.trans g2) r2 (walk_zipT rd l rd2 l2)⟩⟩
    | _ => cases hk
  | _ => cases (show Option.none = some us from e3)
end
end DV
end

section
/-! targets; comprehensions -/
namespace DV
open PySem PySem.Spec PyProof.Rows L2
section
variable {K : PySem.W.Frag} {w : World} {Z : Addr → Prop} {ρ ρ' : Ro} {σ σ' : L2.St} {H H' H1 : Hp}
theorem set_at {α : Type} {l : List α} {i j : Nat} {x y : α} (h : (l.set i x)[j]? = some y) : (j = i ∧ y = x) ∨ (j ≠ i ∧ l[j]? = some y) := by
  by_cases hj : j = i
  · subst hj
    by_cases hl : j < l.length
    · rw [List.getElem?_set_self hl] at h
      exact .inl ⟨rfl, (Option.some.inj h).symm⟩
    · rw [List.getElem?_eq_none (by simpa using hl)] at h
      cases h
  · rw [List.getElem?_set_ne (Ne.symm hj)] at h
    exact .inr ⟨hj, h⟩
theorem set_ne' {α : Type} {l : List α} {i j : Nat} {x : α} (h : j ≠ i) : (l.set i x)[j]? = l[j]? := List.getElem?_set_ne (Ne.symm h)
theorem set_self' {α β : Type} {l : List α} {m : List β} {i : Nat} {x : α} {y z : β} (hl : l.length = m.length) (h : (m.set i y)[i]? = some z) : (l.set i x)[i]? = some x := by
  have : i < m.length := by
    have := (List.getElem?_eq_some_iff.mp h).1
    rwa [List.length_set] at this
  exact List.getElem?_set_self (by rw [hl]; exact this)
theorem ow_asg {i : Nat} {d : D} {v : V} {a : Addr} (h : Ow (ρ.set i (Sl.sh d)) (σ.set i (some v)) a) : Ow ρ σ a := by
  obtain ⟨j, e, h1, h2⟩ := h
  rcases set_at h1 with ⟨_, z⟩ | ⟨hj, z⟩
  · cases z
  · rw [set_ne' hj] at h2
    exact ⟨j, e, z, h2⟩
/-- a name is stored -/
theorem Rel.asg (r : Rel K w Z ρ σ H) {i : Nat} {d : D} {v : V} (h : Den K w (PP Z ρ σ) H v d) : Rel K w Z (ρ.set i (Sl.sh d)) (σ.set i (some v)) H := by
  have g : Go (PP Z ρ σ) H (PP Z (ρ.set i (Sl.sh d)) (σ.set i (some v))) H := Go.sub fun a q => q.imp id ow_asg
  refine ⟨by rw [List.length_set, List.length_set]; exact r.len, fun j e q => ?_, fun j e q => ?_, fun j k a e f q q' p p' => ?_, r.z⟩
  · rcases set_at q with ⟨rfl, z⟩ | ⟨hj, z⟩
    · cases z
      exact ⟨v, set_self' r.len.symm q, h.go g⟩
    · obtain ⟨u, eu, du⟩ := r.sh j e z
      exact ⟨u, by rw [set_ne' hj]; exact eu, du.go g⟩
  · rcases set_at q with ⟨_, z⟩ | ⟨hj, z⟩
    · cases z
    · obtain ⟨a, ea, na, c⟩ := r.ow j e z
      exact ⟨a, by rw [set_ne' hj]; exact ea, na, c.go g rfl⟩
  · rcases set_at q with ⟨_, z⟩ | ⟨hj, z⟩
    · cases z
    · rcases set_at q' with ⟨_, z'⟩ | ⟨hk, z'⟩
      · cases z'
      · rw [set_ne' hj] at p
        rw [set_ne' hk] at p'
        exact r.inj j k a e f z z' p p'
/-- .. as its own container -/
theorem Rel.asgOw {a : Addr} (r : Rel K w (Zp Z a) ρ σ H) (nz : ¬ Z a) {i : Nat} {d : D} (h : Cont K w (PP (Zp Z a) ρ σ) H a d) : Rel K w Z (ρ.set i (Sl.ow d)) (σ.set i (some (V.ref a))) H ∧ ∀ b, Ow (ρ.set i (Sl.ow d)) (σ.set i (some (V.ref a))) b → Ow ρ σ b ∨ b = a := by
  have sub : ∀ b, Ow (ρ.set i (Sl.ow d)) (σ.set i (some (V.ref a))) b → Ow ρ σ b ∨ b = a := fun b q => by
    obtain ⟨j, e, h1, h2⟩ := q
    rcases set_at h1 with ⟨rfl, _⟩ | ⟨hj, z⟩
    · rcases set_at h2 with ⟨_, e2⟩ | ⟨hj, _⟩
      · cases e2; exact .inr rfl
      · exact absurd rfl hj
    · rw [set_ne' hj] at h2
      exact .inl ⟨j, e, z, h2⟩
  have g : Go (PP (Zp Z a) ρ σ) H (PP Z (ρ.set i (Sl.ow d)) (σ.set i (some (V.ref a)))) H := Go.sub fun b q => by
    rcases q with q | q
    · exact .inl (.inl q)
    · rcases sub b q with z | z
      · exact .inr z
      · exact .inl (.inr z)
  refine ⟨⟨by rw [List.length_set, List.length_set]; exact r.len, fun j e q => ?_, fun j e q => ?_, fun j k b e f q q' p p' => ?_, fun b z => r.z b (.inl z)⟩, sub⟩
  · rcases set_at q with ⟨_, z⟩ | ⟨hj, z⟩
    · cases z
    · obtain ⟨u, eu, du⟩ := r.sh j e z
      exact ⟨u, by rw [set_ne' hj]; exact eu, du.go g⟩
  · rcases set_at q with ⟨rfl, z⟩ | ⟨hj, z⟩
    · cases z
      exact ⟨a, set_self' r.len.symm q, nz, h.go g rfl⟩
    · obtain ⟨b, eb, nb, c⟩ := r.ow j e z
      exact ⟨b, by rw [set_ne' hj]; exact eb, fun y => nb (.inl y), c.go g rfl⟩
  · have other : ∀ {j : Nat} {e : D}, j ≠ i → ρ[j]? = some (Sl.ow e) → σ[j]? = some (some (V.ref a)) → False := fun {j e} hj z p => by
      obtain ⟨b, eb, nb, _⟩ := r.ow j e z
      rw [p] at eb
      cases eb
      exact nb (.inr rfl)
    rcases set_at q with ⟨rfl, z⟩ | ⟨hj, z⟩
    · rcases set_at p with ⟨_, e1⟩ | ⟨hj, _⟩
      · cases e1
        rcases set_at q' with ⟨rfl, _⟩ | ⟨hk, z'⟩
        · rfl
        · rw [set_ne' hk] at p'
          exact (other hk z' p').elim
      · exact absurd rfl hj
    · rw [set_ne' hj] at p
      rcases set_at q' with ⟨rfl, _⟩ | ⟨hk, z'⟩
      · rcases set_at p' with ⟨_, e1⟩ | ⟨hk, _⟩
        · cases e1
          exact (other hj z p).elim
        · exact absurd rfl hk
      · rw [set_ne' hk] at p'
        exact r.inj j k b e f z z' p p'
end

/-! ### targets -/
mutual
def tns : Tg → List Nat
  | .nm i => [i]
  | .tp ts => tnss ts
def tnss : Tgs → List Nat
  | .nil => []
  | .cons t ts => tns t ++ tnss ts
end
def tG (K : PySem.W.Frag) (w : World) (t : Tg) : TG := fun v σ H Q => ∃ Z ρ d ρ', Rel K w Z ρ σ H ∧ Den K w (PP Z ρ σ) H v d ∧ asgT t d ρ = some ρ' ∧
  ∀ σ', Go (Ow ρ σ) H (Ow ρ' σ') H → Rel K w Z ρ' σ' H → (∀ j, j ∉ tns t → σ'[j]? = σ[j]?) → Q σ' H
def tGs (K : PySem.W.Frag) (w : World) (ts : Tgs) : TGs := fun vs σ H Q => ∃ Z ρ ds ρ', Rel K w Z ρ σ H ∧ DenL K w (PP Z ρ σ) H vs ds ∧ asgTs ts ds ρ = some ρ' ∧
  ∀ σ', Go (Ow ρ σ) H (Ow ρ' σ') H → Rel K w Z ρ' σ' H → (∀ j, j ∉ tnss ts → σ'[j]? = σ[j]?) → Q σ' H
def celB (raw : Option Scope) (x : Str) : Bool := match raw with
  | none => true
  | some s => match s.names.lookup x with
    | some .cell => true
    | _ => false
def locB (sc : Scope) (raw : Option Scope) (x : Str) : Bool := match sc.names.lookup x with
  | some .local => true
  | some .cell => celB raw x
  | _ => false
def notIoB (io : List Bool) (i : Nat) : Bool := match io[i]? with
  | some true => false
  | _ => true
mutual
def ckTg (G : Ck) (sc : Scope) (raw : Option Scope) : Tg → Expr → Bool
  | .nm i, .Name x _ => decide (G.N[i]? = some x) && locB sc raw x && notIoB G.io i
  | .tp ts, .Tuple es _ _ => ckTgs G sc raw ts es
  | _, _ => false
def ckTgs (G : Ck) (sc : Scope) (raw : Option Scope) : Tgs → List Expr → Bool
  | .nil, [] => true
  | .cons t ts, e :: es => !starB e && ckTg G sc raw t e && ckTgs G sc raw ts es
  | _, _ => false
end
section
variable {X : Cx}
theorem asgEach_cons {e : Expr} {es : List Expr} {env : Env} (h : starB e = false) : assignEach (e :: es) env = (false, assign e env) :: assignEach es env := by
  cases e <;> first | rfl | cases h
structure Wr (G : Ck) (sc : Scope) (raw : Option Scope) (X : Cx) : Prop where
  calm : X.calm = true
  N : X.N = G.N
  nd : X.N.Nodup
  sc : X.env.scope = sc
  cel : ∀ x, celB raw x = true → X.fn x = true
variable {G : Ck} {sc : Scope} {raw : Option Scope}
theorem locB_iff (M : Wr G sc raw X) {x : Str} (h : locB sc raw x = true) : Loc X.env.scope x ∧ (X.fn x = true ∨ X.env.scope.names.lookup x = some .local) := by
  unfold locB at h
  rw [M.sc]
  split at h
  · rename_i e; exact ⟨.inl e, .inr e⟩
  · rename_i e; exact ⟨.inr e, .inl (M.cel x h)⟩
  · cases h
theorem ckTgs_len (M : Wr G sc raw X) : ∀ {ts : Tgs} {es : List Expr}, ckTgs G sc raw ts es = true → (assignEach es X.env).findIdx? (·.1) = none ∧ ∀ {ds : List D} {ρ ρ' : Ro}, asgTs ts ds ρ = some ρ' → ds.length = (assignEach es X.env).length
  | .nil, [], _ => ⟨rfl, fun {ds ρ ρ'} h => by cases ds <;> first | rfl | cases h⟩
  | .cons t ts, e :: es, h => by
    have h : (!starB e && ckTg G sc raw t e && ckTgs G sc raw ts es) = true := h
    rw [Bool.and_eq_true, Bool.and_eq_true] at h
    obtain ⟨q1, q2⟩ := ckTgs_len M h.2
    have ns : starB e = false := by simpa using h.1.1
    rw [asgEach_cons ns]
    refine ⟨?_, fun {ds ρ ρ'} h' => ?_⟩
    · rw [List.findIdx?_cons]
      simp only [Bool.false_eq_true, if_false]
      rw [q1]
      rfl
    · cases ds with
      | nil => cases h'
      | cons d ds =>
        obtain ⟨ρ1, _, h'⟩ := Option.bind_eq_some_iff.mp (show ((asgT t d ρ).bind fun ρ1 => asgTs ts ds ρ1) = some ρ' from h')
        exact congrArg (· + 1) (q2 h')
  | .nil, _ :: _, h => by cases h
  | .cons _ _, [], h => by cases h
theorem _root_.L2.PG.weaken {e : Expr} {t t' : TG} (h : PG X e t) (m : ∀ v σ H Q, t' v σ H Q → t v σ H Q) : PG X e t' := ⟨fun pins s σ H v u Q I r q => h.run pins s σ H v u Q I r (m v σ H Q q)⟩
theorem _root_.L2.PGs.weaken {e : List Expr} {t t' : TGs} (h : PGs X e t) (m : ∀ v σ H Q, t' v σ H Q → t v σ H Q) : PGs X e t' := ⟨fun pins s σ H v u Q I r q => h.run pins s σ H v u Q I r (m v σ H Q q)⟩
mutual
theorem tg_ok (M : Wr G sc raw X) : ∀ {t : Tg} {e : Expr}, ckTg G sc raw t e = true → PG X e (tG X.K X.w t)
  | .nm i, .Name x p, h => by
    have h : (decide (G.N[i]? = some x) && locB sc raw x && notIoB G.io i) = true := h
    rw [Bool.and_eq_true, Bool.and_eq_true] at h
    obtain ⟨l1, l2⟩ := locB_iff M h.1.2
    refine (pg_name M.nd (by rw [M.N]; exact of_decide_eq_true h.1.1) l1 l2).weaken fun v σ H Q q => ?_
    obtain ⟨Z, ρ, d, ρ', r, dv, e, hQ⟩ := q
    cases (show some (ρ.set i (Sl.sh d)) = some ρ' from e)
    exact hQ _ (Go.sub fun a q => ow_asg q) (r.asg dv) fun j hj => set_ne' fun e => hj (by rw [e]; exact List.mem_singleton.mpr rfl)
  | .tp ts, .Tuple es k p, h => by
    have h : ckTgs G sc raw ts es = true := h
    obtain ⟨q1, q2⟩ := ckTgs_len M h
    refine (pg_tup M.calm (tgs_ok M h) rfl q1).weaken fun v σ H Q q => ?_
    obtain ⟨Z, ρ, d, ρ', r, dv, e, hQ⟩ := q
    cases d with
    | tuple ds =>
      have e : asgTs ts ds ρ = some ρ' := e
      obtain ⟨a, xs, rfl, rd, l⟩ := den_tup dv
      exact ⟨a, xs, rfl, rd _ _ Go.refl, by rw [l.length]; exact q2 e, Z, ρ, ds, ρ', r, l, e, hQ⟩
    | _ => cases (show Option.none = some ρ' from e)
  | .nm _, .Tuple .., h => by cases h
  | .nm _, .BoolOp .., h => by cases h
  | .nm _, .NamedExpr .., h => by cases h
  | .nm _, .BinOp .., h => by cases h
  | .nm _, .UnaryOp .., h => by cases h
  | .nm _, .Lambda .., h => by cases h
  | .nm _, .IfExp .., h => by cases h
  | .nm _, .Dict .., h => by cases h
  | .nm _, .Set .., h => by cases h
  | .nm _, .ListComp .., h => by cases h
  | .nm _, .SetComp .., h => by cases h
  | .nm _, .DictComp .., h => by cases h
  | .nm _, .GeneratorExp .., h => by cases h
  | .nm _, .Compare .., h => by cases h
  | .nm _, .Call .., h => by cases h
  | .nm _, .Constant .., h => by cases h
  | .nm _, .Attribute .., h => by cases h
  | .nm _, .Subscript .., h => by cases h
  | .nm _, .Starred .., h => by cases h
  | .nm _, .List .., h => by cases h
  | .nm _, .Slice .., h => by cases h
  | .nm _, .JoinedStr .., h => by cases h
  | .nm _, .Await .., h => by cases h
  | .nm _, .Yield .., h => by cases h
  | .nm _, .YieldFrom .., h => by cases h
  | .nm _, .FormattedValue .., h => by cases h
  | .tp _, .Name .., h => by cases h
  | .tp _, .BoolOp .., h => by cases h
  | .tp _, .NamedExpr .., h => by cases h
  | .tp _, .BinOp .., h => by cases h
  | .tp _, .UnaryOp .., h => by cases h
  | .tp _, .Lambda .., h => by cases h
  | .tp _, .IfExp .., h => by cases h
  | .tp _, .Dict .., h => by cases h
  | .tp _, .Set .., h => by cases h
  | .tp _, .ListComp .., h => by cases h
  | .tp _, .SetComp .., h => by cases h
  | .tp _, .DictComp .., h => by cases h
  | .tp _, .GeneratorExp .., h => by cases h
  | .tp _, .Compare .., h => by cases h
  | .tp _, .Call .., h => by cases h
  | .tp _, .Constant .., h => by cases h
  | .tp _, .Attribute .., h => by cases h
  | .tp _, .Subscript .., h => by cases h
  | .tp _, .Starred .., h => by cases h
  | .tp _, .List .., h => by cases h
  | .tp _, .Slice .., h => by cases h
  | .tp _, .JoinedStr .., h => by cases h
  | .tp _, .Await .., h => by cases h
  | .tp _, .Yield .., h => by cases h
  | .tp _, .YieldFrom .., h => by cases h
  | .tp _, .FormattedValue .., h => by cases h
theorem tgs_ok (M : Wr G sc raw X) : ∀ {ts : Tgs} {es : List Expr}, ckTgs G sc raw ts es = true → PGs X es (tGs X.K X.w ts)
  | .nil, [], _ => pgs_nil.weaken fun vs σ H Q q => by
    obtain ⟨Z, ρ, ds, ρ', r, l, e, hQ⟩ := q
    cases ds with
    | nil =>
      cases l
      cases (show some ρ = some ρ' from e)
      exact ⟨rfl, hQ σ Go.refl r fun _ _ => rfl⟩
    | cons _ _ => cases e
  | .cons t ts, e :: es, h => by
    have h : (!starB e && ckTg G sc raw t e && ckTgs G sc raw ts es) = true := h
    rw [Bool.and_eq_true, Bool.and_eq_true] at h
    have ns : starB e = false := by simpa using h.1.1
    refine (pgs_cons (tg_ok M h.1.2) (tgs_ok M h.2) (by rw [asgEach_cons ns]; rfl)).weaken fun vs σ H Q q => ?_
    obtain ⟨Z, ρ, ds, ρ', r, l, e, hQ⟩ := q
    cases l with
    | nil => cases e
    | cons dv l =>
      rename_i v vs d ds
      obtain ⟨ρ1, e1, e2⟩ := Option.bind_eq_some_iff.mp (show ((asgT t d ρ).bind fun ρ1 => asgTs ts ds ρ1) = some ρ' from e)
      refine ⟨_, _, rfl, Z, ρ, d, ρ1, r, dv, e1, fun σ1 g1 r1 k1 => ⟨Z, ρ1, ds, ρ', r1, DenL.go (g1.pp (Z := Z) (Z' := Z) fun _ q => .inl q) l, e2, fun σ2 g2 r2 k2 => hQ σ2 (g1.trans g2) r2 fun j hj => ?_⟩⟩
      have hj : j ∉ tns t ++ tnss ts := hj
      rw [List.mem_append, not_or] at hj
      rw [k2 j hj.2, k1 j hj.1]
  | .nil, _ :: _, h => by cases h
  | .cons _ _, [], h => by cases h
end
end
end DV
end

section
/-! comprehensions -/
namespace DV
open PySem PySem.Spec PyProof.Rows L2
section
variable {K : PySem.W.Frag} {w : World} {Z : Addr → Prop} {ρ ρ' ρ1 : Ro} {σ σ' : L2.St} {H H' H1 : Hp}
theorem wipeR_len : ∀ {vs : List Nat}, (wipeR ρ vs).length = ρ.length
  | [] => rfl
  | v :: vs => by show ((wipeR ρ vs).set v .no).length = _; rw [List.length_set, wipeR_len]
theorem wipeR_out : ∀ {vs : List Nat} {j : Nat}, j ∉ vs → (wipeR ρ vs)[j]? = ρ[j]?
  | [], _, _ => rfl
  | v :: vs, j, h => by
    rw [List.mem_cons, not_or] at h
    show ((wipeR ρ vs).set v .no)[j]? = _
    rw [set_ne' h.1, wipeR_out h.2]
theorem wipeR_in : ∀ {vs : List Nat} {j : Nat} {x : Sl}, j ∈ vs → (wipeR ρ vs)[j]? = some x → x = .no
  | [], _, _, h, _ => nomatch h
  | v :: vs, j, x, h, e => by
    rcases set_at (show ((wipeR ρ vs).set v .no)[j]? = some x from e) with ⟨_, z⟩ | ⟨hj, z⟩
    · exact z
    · rcases List.mem_cons.mp h with h | h
      · exact absurd h hj
      · exact wipeR_in h z
theorem wipe_in : ∀ {vs : List Nat} {j : Nat} {x : Option V}, j ∈ vs → (wipe σ vs)[j]? = some x → x = none
  | [], _, _, h, _ => nomatch h
  | v :: vs, j, x, h, e => by
    rcases set_at (show ((wipe σ vs).set v none)[j]? = some x from e) with ⟨_, z⟩ | ⟨hj, z⟩
    · exact z
    · rcases List.mem_cons.mp h with h | h
      · exact absurd h hj
      · exact wipe_in h z
/-- two states that differ in vs alone -/
theorem wipe_eq {vs : List Nat} (hl : σ'.length = σ.length) (h : ∀ j, j ∉ vs → σ'[j]? = σ[j]?) : wipe σ' vs = wipe σ vs := by
  apply List.ext_getElem?
  intro j
  by_cases hj : j ∈ vs
  · have aux : ∀ (s : L2.St), j < s.length → (wipe s vs)[j]? = some none := fun s hs => by
      obtain ⟨x, hx⟩ : ∃ x, (wipe s vs)[j]? = some x := ⟨_, List.getElem?_eq_getElem (by rw [wipe_length]; exact hs)⟩
      rw [hx, wipe_in hj hx]
    by_cases hs : j < σ.length
    · rw [aux σ hs, aux σ' (by rw [hl]; exact hs)]
    · rw [List.getElem?_eq_none (by rw [wipe_length, hl]; omega), List.getElem?_eq_none (by rw [wipe_length]; omega)]
  · rw [wipe_out hj, wipe_out hj, h j hj]
theorem wipe_wipe {vs vs1 : List Nat} (h : ∀ i ∈ vs1, i ∈ vs) : wipe (wipe σ vs1) vs = wipe σ vs := wipe_eq (wipe_length _ _) fun j hj => wipe_out fun m => hj (h j m)
theorem ow_wipe {vs : List Nat} {a : Addr} (h : Ow (wipeR ρ vs) (wipe σ vs) a) : ∃ i d, i ∉ vs ∧ ρ[i]? = some (Sl.ow d) ∧ σ[i]? = some (some (V.ref a)) := by
  obtain ⟨i, d, h1, h2⟩ := h
  have hi : i ∉ vs := fun m => by
    have := wipeR_in m h1
    cases this
  rw [wipeR_out hi] at h1
  rw [wipe_out hi] at h2
  exact ⟨i, d, hi, h1, h2⟩
/-- the block's own slots are forgotten -/
theorem Rel.wipe (r : Rel K w Z ρ σ H) (vs : List Nat) : Rel K w Z (wipeR ρ vs) (L2.wipe σ vs) H ∧ ∀ a, Ow (wipeR ρ vs) (L2.wipe σ vs) a → Ow ρ σ a := by
  have sub : ∀ a, Ow (wipeR ρ vs) (L2.wipe σ vs) a → Ow ρ σ a := fun a q => by
    obtain ⟨i, d, _, h1, h2⟩ := ow_wipe q
    exact ⟨i, d, h1, h2⟩
  have g : Go (PP Z ρ σ) H (PP Z (wipeR ρ vs) (L2.wipe σ vs)) H := Go.sub fun a q => q.imp id (sub a)
  have out : ∀ {j : Nat} {x : Sl}, (wipeR ρ vs)[j]? = some x → x ≠ .no → j ∉ vs ∧ ρ[j]? = some x := fun {j x} h n => by
    have hj : j ∉ vs := fun m => n (wipeR_in m h)
    exact ⟨hj, by rw [← wipeR_out hj]; exact h⟩
  refine ⟨⟨by rw [wipeR_len, wipe_length]; exact r.len, fun j d h => ?_, fun j d h => ?_, fun j k a d e h1 h2 h3 h4 => ?_, r.z⟩, sub⟩
  · obtain ⟨hj, h⟩ := out h (fun z => nomatch z)
    obtain ⟨v, ev, dv⟩ := r.sh j d h
    exact ⟨v, by rw [wipe_out hj]; exact ev, dv.go g⟩
  · obtain ⟨hj, h⟩ := out h (fun z => nomatch z)
    obtain ⟨a, ea, na, c⟩ := r.ow j d h
    exact ⟨a, by rw [wipe_out hj]; exact ea, na, c.go g rfl⟩
  · obtain ⟨hj, h1⟩ := out h1 (fun z => nomatch z)
    obtain ⟨hk, h2⟩ := out h2 (fun z => nomatch z)
    rw [wipe_out hj] at h3
    rw [wipe_out hk] at h4
    exact r.inj j k a d e h1 h2 h3 h4
theorem back_len : ∀ {vs : List Nat}, (back ρ1 ρ vs).length = ρ.length
  | [] => rfl
  | v :: vs => by show ((back ρ1 ρ vs).set v _).length = _; rw [List.length_set, back_len]
theorem back_out : ∀ {vs : List Nat} {j : Nat}, j ∉ vs → (back ρ1 ρ vs)[j]? = ρ[j]?
  | [], _, _ => rfl
  | v :: vs, j, h => by
    rw [List.mem_cons, not_or] at h
    show ((back ρ1 ρ vs).set v _)[j]? = _
    rw [set_ne' h.1, back_out h.2]
theorem back_in : ∀ {vs : List Nat} {j : Nat} {x : Sl}, j ∈ vs → (back ρ1 ρ vs)[j]? = some x → x = ρ1.getD j .no
  | [], _, _, h, _ => nomatch h
  | v :: vs, j, x, h, e => by
    rcases set_at (show ((back ρ1 ρ vs).set v (ρ1.getD v .no))[j]? = some x from e) with ⟨z1, z⟩ | ⟨hj, z⟩
    · rw [z1]; exact z
    · rcases List.mem_cons.mp h with h | h
      · exact absurd h hj
      · exact back_in h z
theorem noOw_mem {vs : List Nat} (h : noOw ρ vs = true) {j : Nat} (hj : j ∈ vs) {d : D} : ρ[j]? ≠ some (Sl.ow d) := fun e => by
  have := List.all_eq_true.mp h j hj
  rw [e] at this
  cases this
theorem getD_some {j : Nat} {x : Sl} (h : ρ.getD j .no = x) (n : x ≠ .no) : ρ[j]? = some x := by
  rw [List.getD_eq_getElem?_getD] at h
  cases e : ρ[j]? with
  | none => rw [e] at h; exact absurd h.symm n
  | some y => rw [e] at h; rw [show y = x from h]
/-- .. and come back behind it -/
theorem Rel.back {P : Addr → Prop} {vs : List Nat} {Z1 : Addr → Prop} (r1 : Rel K w Z1 ρ1 σ H1) (no : noOw ρ1 vs = true) (r : Rel K w Z (wipeR ρ vs) (L2.wipe σ vs) H) (g : Go (PP Z1 ρ1 σ) H1 (PP Z (wipeR ρ vs) (L2.wipe σ vs)) H) :
    Rel K w Z (DV.back ρ1 ρ vs) σ H ∧ ∀ a, Ow (DV.back ρ1 ρ vs) σ a ↔ Ow (wipeR ρ vs) (L2.wipe σ vs) a := by
  have ll : ρ.length = σ.length := by rw [← wipeR_len (vs := vs), r.len, wipe_length]
  have out : ∀ {j : Nat} {x : Sl}, j ∉ vs → (DV.back ρ1 ρ vs)[j]? = some x → (wipeR ρ vs)[j]? = some x := fun {j x} hj h => by rw [wipeR_out hj, ← back_out hj]; exact h
  have inn : ∀ {j : Nat} {d : D}, (DV.back ρ1 ρ vs)[j]? = some (Sl.ow d) → j ∉ vs := fun {j d} h m => noOw_mem no m (getD_some (back_in m h).symm (fun z => nomatch z))
  have iff : ∀ a, Ow (DV.back ρ1 ρ vs) σ a ↔ Ow (wipeR ρ vs) (L2.wipe σ vs) a := fun a => ⟨fun q => by
    obtain ⟨i, d, h1, h2⟩ := q
    have hi := inn h1
    exact ⟨i, d, out hi h1, by rw [wipe_out hi]; exact h2⟩, fun q => by
    obtain ⟨i, d, hi, h1, h2⟩ := ow_wipe q
    exact ⟨i, d, by rw [back_out hi]; exact h1, h2⟩⟩
  have ppe : ∀ a, PP Z (DV.back ρ1 ρ vs) σ a → PP Z (wipeR ρ vs) (L2.wipe σ vs) a := fun a q => q.imp id (iff a).mp
  have g0 : Go (PP Z (wipeR ρ vs) (L2.wipe σ vs)) H (PP Z (DV.back ρ1 ρ vs) σ) H := Go.sub ppe
  refine ⟨⟨by rw [back_len]; exact ll, fun j d h => ?_, fun j d h => ?_, fun j k a d e h1 h2 h3 h4 => ?_, r.z⟩, iff⟩
  · by_cases hj : j ∈ vs
    · obtain ⟨v, ev, dv⟩ := r1.sh j d (getD_some (back_in hj h).symm (fun z => nomatch z))
      exact ⟨v, ev, (dv.go g).go g0⟩
    · obtain ⟨v, ev, dv⟩ := r.sh j d (out hj h)
      rw [wipe_out hj] at ev
      exact ⟨v, ev, dv.go g0⟩
  · have hj := inn h
    obtain ⟨a, ea, na, c⟩ := r.ow j d (out hj h)
    rw [wipe_out hj] at ea
    exact ⟨a, ea, na, c.go g0 rfl⟩
  · have hj := inn h1
    have hk := inn h2
    exact r.inj j k a d e (out hj h1) (out hk h2) (by rw [wipe_out hj]; exact h3) (by rw [wipe_out hk]; exact h4)

/-! ### a turn -/
/-- a slot's own, or the list that is being made -/
def OwD (L : Addr) (ρ : Ro) (σ : L2.St) (a : Addr) : Prop := Ow ρ σ a ∨ a = L
theorem Go.owD {L : Addr} {ρ' : Ro} {σ' : L2.St} {Z Z' : Addr → Prop} (g : Go (Ow ρ σ) H (OwD L ρ' σ') H') (hz : ∀ a, Z' a → Z a ∨ a = L) : Go (PP Z ρ σ) H (PP Z' ρ' σ') H' := by
  refine ⟨fun a o h n => g.keep a o h fun q => n (.inr q), fun a q => ?_, g.dom⟩
  rcases q with q | q
  · rcases hz a q with z | z
    · exact .inl (.inl z)
    · rcases g.priv a (.inr z) with y | y
      · exact .inl (.inr y)
      · exact .inr y
  · rcases g.priv a (.inl q) with y | y
    · exact .inl (.inr y)
    · exact .inr y
theorem Go.owD2 {L : Addr} {ρ' : Ro} {σ' : L2.St} {Z : Addr → Prop} (zl : Z L) (g : Go (OwD L ρ σ) H (OwD L ρ' σ') H') : Go (PP Z ρ σ) H (PP Z ρ' σ') H' := by
  refine ⟨fun a o h n => g.keep a o h fun q => ?_, fun a q => ?_, g.dom⟩
  · rcases q with q | q
    · exact n (.inr q)
    · exact n (.inl (by rw [q]; exact zl))
  · rcases q with q | q
    · exact .inl (.inl q)
    · rcases g.priv a (.inl q) with (y | y) | y
      · exact .inl (.inr y)
      · exact .inl (.inl (by rw [y]; exact zl))
      · exact .inr y
theorem Go.up {L : Addr} {ρ' : Ro} {σ' : L2.St} (g : Go (Ow ρ σ) H (Ow ρ' σ') H') : Go (OwD L ρ σ) H (OwD L ρ' σ') H' :=
  ⟨fun a o h n => g.keep a o h fun q => n (.inl q), fun a q => by
    rcases q with q | q
    · exact (g.priv a q).imp .inl id
    · exact .inl (.inr q), g.dom⟩
/-- the list so far -/
structure Mk (K : PySem.W.Frag) (w : World) (Z : Addr → Prop) (L : Addr) (ρ : Ro) (σ : L2.St) (H : Hp) (acc : List V) (ys : List D) : Prop where
  at_ : H L = some (.lst acc)
  den : DenL K w (PP Z ρ σ) H acc ys
  rel : Rel K w Z ρ σ H
theorem Mk.notOw {L : Addr} {acc : List V} {ys : List D} (m : Mk K w Z L ρ σ H acc ys) (zl : Z L) : ¬ Ow ρ σ L := fun q => by
  obtain ⟨i, d, h1, h2⟩ := q
  obtain ⟨a, ea, na, _⟩ := m.rel.ow i d h1
  rw [h2] at ea
  cases ea
  exact na zl
/-- something without a hold on the list -/
theorem Mk.step {L : Addr} {acc : List V} {ys : List D} (m : Mk K w Z L ρ σ H acc ys) (zl : Z L) {ρ' : Ro} {σ' : L2.St} {H' : Hp} (g : Go (Ow ρ σ) H (Ow ρ' σ') H') (r : Rel K w Z ρ' σ' H') : Mk K w Z L ρ' σ' H' acc ys :=
  ⟨g.keep _ _ m.at_ (m.notOw zl), m.den.go (g.pp fun _ q => .inl q), r⟩
theorem Mk.wipe {L : Addr} {acc : List V} {ys : List D} (m : Mk K w Z L ρ σ H acc ys) (vs : List Nat) : Mk K w Z L (wipeR ρ vs) (L2.wipe σ vs) H acc ys := by
  obtain ⟨r, sub⟩ := m.rel.wipe vs
  exact ⟨m.at_, m.den.go (Go.sub fun a q => q.imp id (sub a)), r⟩
theorem Mk.add {L : Addr} {acc : List V} {ys : List D} (m : Mk K w Z L ρ σ H acc ys) (zl : Z L) {v : V} {d : D} (dv : Den K w (PP Z ρ σ) H v d) : Mk K w Z L ρ σ (upd H L (.lst (acc ++ [v]))) (acc ++ [v]) (ys ++ [d]) ∧ Go (OwD L ρ σ) H (OwD L ρ σ) (upd H L (.lst (acc ++ [v]))) := by
  obtain ⟨g, r⟩ := m.rel.apart zl (.lst (acc ++ [v]))
  exact ⟨⟨upd_same, (m.den.go g).append (.cons (dv.go g) .nil), r⟩, Go.put (.inr rfl) fun _ q => q⟩
end
/-- the tests of a clause -/
def tCs (K : PySem.W.Frag) (w : World) (C : Call) (cs : IEs) : TT := fun σ H Q => ∃ Z ρ k ρ', Rel K w Z ρ σ H ∧ evCs C cs ρ = some (k, ρ') ∧ ∀ H', Go (Ow ρ σ) H (Ow ρ' σ) H' → Rel K w Z ρ' σ H' → Q k H'
section
variable {X : Cx} {C : Call}
theorem cs_nil : PTs X [] (tCs X.K X.w C .nil) := ⟨fun pins s σ H Q I h => by
  obtain ⟨Z, ρ, k, ρ', r, e, hQ⟩ := h
  cases (show some (true, ρ) = some (k, ρ') from e)
  exact pts_nil.run pins s σ H Q I (hQ H Go.refl r)⟩
theorem cs_one {c : IE} {x : Expr} (h : PT X x (tT X.K X.w C c)) : PTs X [x] (tCs X.K X.w C (.cons c .nil)) := ⟨fun pins s σ H Q I q => by
  obtain ⟨Z, ρ, k, ρ', r, e, hQ⟩ := q
  obtain ⟨⟨d, ρ1⟩, e1, e⟩ := Option.bind_eq_some_iff.mp (show ((evE C c ρ).bind fun p => (truthF p.1).map fun k => (k, p.2)) = some (k, ρ') from e)
  obtain ⟨k', e2, e⟩ := Option.map_eq_some_iff.mp e
  cases e
  exact (pts_one h).run pins s σ H Q I ⟨Z, ρ, d, ρ1, k, r, e1, e2, hQ⟩⟩
def turnF (C : Call) (t : Tg) (cs : IEs) (elt : IE) (vs : List Nat) (x : D) (ρ : Ro) : Option (List D × Ro) := (asgT t x (wipeR ρ vs)).bind fun ρ1 => (evCs C cs ρ1).bind fun q => if q.1 then (evE C elt q.2).map fun r => ([r.1], r.2) else some ([], q.2)
theorem asgT_len (t : Tg) : ∀ (d : D) (ρ ρ' : Ro), asgT t d ρ = some ρ' → ρ'.length = ρ.length := by
  refine Tg.rec (motive_1 := fun t => ∀ (d : D) (ρ ρ' : Ro), asgT t d ρ = some ρ' → ρ'.length = ρ.length) (motive_2 := fun ts => ∀ (ds : List D) (ρ ρ' : Ro), asgTs ts ds ρ = some ρ' → ρ'.length = ρ.length) ?_ ?_ ?_ ?_ t
  · intro i d ρ ρ' h
    cases (show some (ρ.set i (Sl.sh d)) = some ρ' from h)
    exact List.length_set
  · intro ts ih d ρ ρ' h
    cases d with
    | tuple ds => exact ih ds ρ ρ' h
    | _ => cases (show Option.none = some ρ' from h)
  · intro ds ρ ρ' h
    cases ds with
    | nil => cases (show some ρ = some ρ' from h); rfl
    | cons _ _ => cases h
  · intro t ts ih1 ih2 ds ρ ρ' h
    cases ds with
    | nil => cases h
    | cons d ds =>
      obtain ⟨ρ1, h1, h⟩ := Option.bind_eq_some_iff.mp (show ((asgT t d ρ).bind fun ρ1 => asgTs ts ds ρ1) = some ρ' from h)
      rw [ih2 ds ρ1 ρ' h, ih1 d ρ ρ1 h1]
/-- a turn that ends with the element's being added -/
theorem turn_ok {K : PySem.W.Frag} {w : World} {Z : Addr → Prop} {L : Addr} (zl : Z L) {ρ ρ' : Ro} {σ : L2.St} {vs : List Nat} {H H' : Hp} {acc : List V} {ys ns : List D} {t : Tg} {cs : IEs} {elt : IE} {d : D} {x : V} {Nx : Hp → Prop} (m : Mk K w Z L (wipeR ρ vs) (wipe σ vs) H acc ys) (s : Same H H')
    (dx : Den K w (PP Z (wipeR ρ vs) (wipe σ vs)) H' x d) (ht : ∀ i ∈ tns t, i ∈ vs) (e : turnF C t cs elt vs d ρ = some (ns, ρ')) (hz : ns ≠ [] → acc.length < sizeLine)
    (hN : ∀ H'' acc', Go (OwD L (wipeR ρ vs) (wipe σ vs)) H (OwD L (wipeR ρ' vs) (wipe σ vs)) H'' → Mk K w Z L (wipeR ρ' vs) (wipe σ vs) H'' acc' (ys ++ ns) → acc'.length ≤ acc.length + 1 → Nx H'') :
    tG K w t x (wipe σ vs) H' fun σ2 H2 => wipe σ2 vs = wipe σ vs ∧ tCs K w C cs σ2 H2 fun b H3 => if b = true then tE K w C elt σ2 H3 fun y H4 => ∃ acc, H4 L = some (.lst acc) ∧ acc.length < sizeLine ∧ Nx (upd H4 L (.lst (acc ++ [y]))) else Nx H3 := by
  obtain ⟨ρ1, e1, e⟩ := Option.bind_eq_some_iff.mp e
  obtain ⟨⟨k, ρ2⟩, e2, e⟩ := Option.bind_eq_some_iff.mp e
  have g0 : Go (Ow (wipeR ρ vs) (wipe σ vs)) H (Ow (wipeR ρ vs) (wipe σ vs)) H' := Go.same s fun _ q => .inl q
  have m0 := m.step zl g0 (m.rel.same s)
  refine ⟨Z, _, d, ρ1, m0.rel, dx, e1, fun σ1 g1 r1 k1 => ⟨?_, Z, ρ1, k, ρ2, r1, e2, fun H3 g2 r2 => ?_⟩⟩
  · rw [wipe_eq (by rw [← r1.len, ← m0.rel.len]; exact asgT_len t d _ _ e1) fun j hj => k1 j fun q => hj (ht j q), wipe_wipe fun _ q => q]
  · have hw : wipe σ1 vs = wipe σ vs := by
      rw [wipe_eq (by rw [← r1.len, ← m0.rel.len]; exact asgT_len t d _ _ e1) fun j hj => k1 j fun q => hj (ht j q), wipe_wipe fun _ q => q]
    have g3 := (g0.trans g1).trans g2
    have m3 := m.step zl g3 r2
    cases k with
    | false =>
      show Nx H3
      cases (show some (([] : List D), ρ2) = some (ns, ρ') from e)
      have m4 := m3.wipe vs
      rw [hw] at m4
      refine hN H3 acc ?_ (by rw [List.append_nil]; exact m4) (Nat.le_succ _)
      refine (Go.up g3).trans (Go.sub fun a q => ?_)
      rcases q with q | q
      · obtain ⟨i, dd, hi, q1, q2⟩ := ow_wipe q
        have : σ1[i]? = some (some (V.ref a)) := by
          have z : (wipe σ1 vs)[i]? = (wipe σ vs)[i]? := by rw [hw]
          rw [wipe_out hi, wipe_out hi] at z
          rw [z]; exact q2
        exact .inl ⟨i, dd, q1, this⟩
      · exact .inr q
    | true =>
      show tE K w C elt σ1 H3 _
      obtain ⟨⟨rd, ρ3⟩, e3, e⟩ := Option.map_eq_some_iff.mp (show (evE C elt ρ2).map (fun r => ([r.1], r.2)) = some (ns, ρ') from e)
      cases e
      refine ⟨Z, ρ2, rd, ρ3, r2, e3, fun y H4 g4 o4 => ?_⟩
      obtain ⟨r4, dy⟩ := o4.den r2
      have m4 := m3.step zl g4 r4
      obtain ⟨m5, g5⟩ := m4.add zl dy
      have m6 := m5.wipe vs
      rw [hw] at m6
      refine ⟨acc, m4.at_, hz (fun q => nomatch q), hN _ _ ?_ m6 (by rw [List.length_append]; exact Nat.le_refl _)⟩
      refine ((Go.up (g3.trans g4)).trans g5).trans (Go.sub fun a q => ?_)
      rcases q with q | q
      · obtain ⟨i, dd, hi, q1, q2⟩ := ow_wipe q
        have : σ1[i]? = some (some (V.ref a)) := by
          have z : (wipe σ1 vs)[i]? = (wipe σ vs)[i]? := by rw [hw]
          rw [wipe_out hi, wipe_out hi] at z
          rw [z]; exact q2
        exact .inl ⟨i, dd, q1, this⟩
      · exact .inr q
theorem drop_cons {α : Type} {xs : List α} {i : Nat} (h : i < xs.length) : xs.drop i = xs[i] :: xs.drop (i + 1) := List.drop_eq_getElem_cons h
/-- one clause -/
theorem lc_key {vs : List Nat} {t : Tg} {it : It} {cs : IEs} {elt : IE} (ht : ∀ i ∈ tns t, i ∈ vs) {σ : L2.St} {H : Hp} {Q : VK} (h : tE X.K X.w C (.comp vs t it cs elt) σ H Q) : tLc (tI X.K X.w C it) (tG X.K X.w t) (tCs X.K X.w C cs) (tE X.K X.w C elt) vs σ H Q := by
  obtain ⟨Z, ρ, d, ρ', r, ev, hQ⟩ := h
  obtain ⟨⟨xs, ρ1⟩, e1, h⟩ := Option.bind_eq_some_iff.mp (show ((evI C it ρ).bind fun p => if noOw p.2 vs then (fitsL p.1).bind fun xs => (compLoop (turnF C t cs elt vs) xs p.2).map fun q => (PyData.list q.1, back p.2 q.2 vs) else none) = some (d, ρ') from ev)
  by_cases hno : noOw ρ1 vs = true
  · rw [if_pos hno] at h
    obtain ⟨xs', e2, h⟩ := Option.bind_eq_some_iff.mp h
    obtain ⟨hsz, e2⟩ := ite_some (show (if xs.length ≤ sizeLine then some xs else none) = some xs' from e2)
    subst e2
    obtain ⟨⟨ys, ρe⟩, e3, h⟩ := Option.map_eq_some_iff.mp h
    cases h
    refine ⟨Z, ρ, xs, ρ1, r, e1, fun J H1 g1 r1 wk L nL => ?_⟩
    have zl : Zp Z L L := .inr rfl
    have r2 : Rel X.K X.w (Zp Z L) ρ1 σ (upd H1 L (.lst [])) := r1.more (same_new nL) (fun a q => q.imp id fun e => by rw [e]; exact nL) fun a q => by
      rcases q with q | q
      · exact upd_there (r1.z a q)
      · rw [q, upd_same]; simp
    have mk0 : Mk X.K X.w (Zp Z L) L (wipeR ρ1 vs) (wipe σ vs) (upd H1 L (.lst [])) [] [] := Mk.wipe ⟨upd_same, .nil, r2⟩ vs
    have gg0 : Go (Ow ρ1 σ) H1 (OwD L (wipeR ρ1 vs) (wipe σ vs)) (upd H1 L (.lst [])) := Go.same (same_new nL) fun a q => by
      rcases q with q | q
      · exact .inl ((r2.wipe vs).2 a q)
      · exact .inr (by rw [q]; exact nL)
    refine ⟨fun i m Hi => m = xs.length - i ∧ i ≤ xs.length ∧ ∃ ρi acc ys1 ys2, compLoop (turnF C t cs elt vs) (xs.drop i) ρi = some (ys2, ρe) ∧ ys1 ++ ys2 = ys ∧ acc.length ≤ i ∧ Mk X.K X.w (Zp Z L) L (wipeR ρi vs) (wipe σ vs) Hi acc ys1 ∧ Go (Ow ρ1 σ) H1 (OwD L (wipeR ρi vs) (wipe σ vs)) Hi,
      ⟨xs.length, by simp, Nat.zero_le _, ρ1, [], [], ys, e3, rfl, Nat.zero_le _, mk0, gg0⟩, ?_⟩
    rintro i m Hi ⟨rfl, hi, ρi, acc, ys1, ys2, el, ey, hacc, mk, gg⟩
    have gP : Go (PP Z ρ1 σ) H1 (PP (Zp Z L) (wipeR ρi vs) (wipe σ vs)) Hi := Go.owD gg fun a q => q
    by_cases hlt : i < xs.length
    · right
      rw [drop_cons hlt] at el
      obtain ⟨⟨ns, ρ2⟩, f1, el⟩ := Option.bind_eq_some_iff.mp (show ((turnF C t cs elt vs xs[i] ρi).bind fun p => (compLoop (turnF C t cs elt vs) (xs.drop (i + 1)) p.2).bind fun q => some (p.1 ++ q.1, q.2)) = some (ys2, ρe) from el)
      obtain ⟨⟨ms, ρ3⟩, f2, el⟩ := Option.bind_eq_some_iff.mp el
      cases el
      refine ⟨wk.go _ _ gP i hlt, fun Hn => ∃ ρn acc', compLoop (turnF C t cs elt vs) (xs.drop (i + 1)) ρn = some (ms, ρ3) ∧ acc'.length ≤ i + 1 ∧ Mk X.K X.w (Zp Z L) L (wipeR ρn vs) (wipe σ vs) Hn acc' (ys1 ++ ns) ∧ Go (Ow ρ1 σ) H1 (OwD L (wipeR ρn vs) (wipe σ vs)) Hn, fun Hn ⟨ρn, acc', q1, q2, q3, q4⟩ => ⟨xs.length - (i + 1), by omega, rfl, hlt, ρn, acc', _, ms, q1, by rw [← ey, List.append_assoc], q2, q3, q4⟩, fun x H' y => ?_⟩
      obtain ⟨sm, dx⟩ := wk.yld _ _ gP (fun a q => mk.rel.pp q) i _ (List.getElem?_eq_getElem hlt) x H' y
      exact turn_ok zl mk sm dx ht f1 (fun _ => by omega) fun H'' acc' q1 q2 q3 => ⟨ρ2, acc', f2, by omega, q2, gg.trans q1⟩
    · left
      have ei : i = xs.length := by omega
      subst ei
      rw [List.drop_length] at el
      cases (show some (([] : List D), ρi) = some (ys2, ρe) from el)
      refine ⟨wk.stop _ _ gP, ?_⟩
      obtain ⟨rb, iff⟩ := Rel.back (P := fun _ => True) r1 hno mk.rel gP
      have ppe : ∀ a, PP (Zp Z L) (back ρ1 ρe vs) σ a → PP (Zp Z L) (wipeR ρe vs) (wipe σ vs) a := fun a q => q.imp id (iff a).mp
      have g2 : Go (Ow ρ σ) H (Ow (back ρ1 ρe vs) σ) Hi := (g1.trans gg).trans (Go.sub fun a q => .inl ((iff a).mp q))
      refine hQ _ _ g2 ?_
      have n0 : H L = none := by
        cases e : H L with
        | none => rfl
        | some u => exact absurd nL (g1.dom L (by rw [e]; simp))
      unfold Out
      rw [if_pos (show (freshE (.comp vs t it cs elt) && isCont (.list ys)) = true from rfl)]
      rw [List.append_nil] at ey
      subst ey
      exact ⟨L, rfl, n0, rb, .lst mk.at_ (mk.den.go (Go.sub ppe))⟩
  · rw [if_neg hno] at h; cases h
def turnF2 (C : Call) (t : Tg) (cs : IEs) (it1 : It) (f1 : D → Ro → Option (List D × Ro)) (vs : List Nat) (x : D) (ρ : Ro) : Option (List D × Ro) := (asgT t x (wipeR ρ vs)).bind fun ρ1 => (evCs C cs ρ1).bind fun q => if q.1 then (evI C it1 q.2).bind fun p1 => compLoop f1 p1.1 p1.2 else some ([], q.2)
theorem wipeR_wipeR {ρ : Ro} {vs vs1 : List Nat} (h : ∀ i ∈ vs1, i ∈ vs) : wipeR (wipeR ρ vs1) vs = wipeR ρ vs := by
  apply List.ext_getElem?
  intro j
  by_cases hj : j ∈ vs
  · have aux : ∀ (s : Ro), j < s.length → (wipeR s vs)[j]? = some .no := fun s hs => by
      obtain ⟨x, hx⟩ : ∃ x, (wipeR s vs)[j]? = some x := ⟨_, List.getElem?_eq_getElem (by rw [wipeR_len]; exact hs)⟩
      rw [hx, wipeR_in hj hx]
    by_cases hs : j < ρ.length
    · rw [aux ρ hs, aux (wipeR ρ vs1) (by rw [wipeR_len]; exact hs)]
    · rw [List.getElem?_eq_none (by rw [wipeR_len, wipeR_len]; omega), List.getElem?_eq_none (by rw [wipeR_len]; omega)]
  · rw [wipeR_out hj, wipeR_out hj, wipeR_out fun m => hj (h j m)]
theorem ow_same {ρ : Ro} {σ σ1 : L2.St} {vs : List Nat} {L : Addr} (hw : wipe σ1 vs = wipe σ vs) : ∀ a, OwD L (wipeR ρ vs) (wipe σ vs) a → OwD L ρ σ1 a := fun a q => by
  rcases q with q | q
  · obtain ⟨i, dd, hi, q1, q2⟩ := ow_wipe q
    have z : (wipe σ1 vs)[i]? = (wipe σ vs)[i]? := by rw [hw]
    rw [wipe_out hi, wipe_out hi] at z
    exact .inl ⟨i, dd, q1, by rw [z]; exact q2⟩
  · exact .inr q
/-- two clauses -/
theorem lc2_key {vs vs1 : List Nat} {t t1 : Tg} {it it1 : It} {cs cs1 : IEs} {elt : IE} (ht : ∀ i ∈ tns t, i ∈ vs) (ht1 : ∀ i ∈ tns t1, i ∈ vs1) (hv : ∀ i ∈ vs1, i ∈ vs) {σ : L2.St} {H : Hp} {Q : VK} (h : tE X.K X.w C (.comp2 vs t it cs vs1 t1 it1 cs1 elt) σ H Q) :
    tLc2 (tI X.K X.w C it) (tG X.K X.w t) (tCs X.K X.w C cs) (tI X.K X.w C it1) (tG X.K X.w t1) (tCs X.K X.w C cs1) (tE X.K X.w C elt) vs vs1 σ H Q := by
  obtain ⟨Z, ρ, d, ρ', r, ev, hQ⟩ := h
  obtain ⟨⟨xs, ρ1⟩, e1, h⟩ := Option.bind_eq_some_iff.mp (show ((evI C it ρ).bind fun p => if noOw p.2 vs then (compLoop (turnF2 C t cs it1 (turnF C t1 cs1 elt vs1) vs) p.1 p.2).bind fun q => (fitsL q.1).map fun ys => (PyData.list ys, back p.2 q.2 vs) else none) = some (d, ρ') from ev)
  by_cases hno : noOw ρ1 vs = true
  · rw [if_pos hno] at h
    obtain ⟨⟨ys, ρe⟩, e3, h⟩ := Option.bind_eq_some_iff.mp h
    obtain ⟨ys', e2, h⟩ := Option.map_eq_some_iff.mp h
    obtain ⟨hsz, e2⟩ := ite_some (show (if ys.length ≤ sizeLine then some ys else none) = some ys' from e2)
    subst e2
    cases h
    refine ⟨Z, ρ, xs, ρ1, r, e1, fun J H1 g1 r1 wk L nL => ?_⟩
    have zl : Zp Z L L := .inr rfl
    have r2 : Rel X.K X.w (Zp Z L) ρ1 σ (upd H1 L (.lst [])) := r1.more (same_new nL) (fun a q => q.imp id fun e => by rw [e]; exact nL) fun a q => by
      rcases q with q | q
      · exact upd_there (r1.z a q)
      · rw [q, upd_same]; simp
    have mk0 : Mk X.K X.w (Zp Z L) L (wipeR ρ1 vs) (wipe σ vs) (upd H1 L (.lst [])) [] [] := Mk.wipe ⟨upd_same, .nil, r2⟩ vs
    have gg0 : Go (Ow ρ1 σ) H1 (OwD L (wipeR ρ1 vs) (wipe σ vs)) (upd H1 L (.lst [])) := Go.same (same_new nL) fun a q => by
      rcases q with q | q
      · exact .inl ((r2.wipe vs).2 a q)
      · exact .inr (by rw [q]; exact nL)
    refine ⟨fun i m Hi => m = xs.length - i ∧ i ≤ xs.length ∧ ∃ ρi acc ys1 ys2, compLoop (turnF2 C t cs it1 (turnF C t1 cs1 elt vs1) vs) (xs.drop i) ρi = some (ys2, ρe) ∧ ys1 ++ ys2 = ys ∧ Mk X.K X.w (Zp Z L) L (wipeR ρi vs) (wipe σ vs) Hi acc ys1 ∧ Go (Ow ρ1 σ) H1 (OwD L (wipeR ρi vs) (wipe σ vs)) Hi,
      ⟨xs.length, by simp, Nat.zero_le _, ρ1, [], [], ys, e3, rfl, mk0, gg0⟩, ?_⟩
    rintro i m Hi ⟨rfl, hi, ρi, acc, ys1, ys2, el, ey, mk, gg⟩
    have gP : Go (PP Z ρ1 σ) H1 (PP (Zp Z L) (wipeR ρi vs) (wipe σ vs)) Hi := Go.owD gg fun a q => q
    by_cases hlt : i < xs.length
    · right
      rw [drop_cons hlt] at el
      obtain ⟨⟨ns, ρ2⟩, f1, el⟩ := Option.bind_eq_some_iff.mp (show ((turnF2 C t cs it1 (turnF C t1 cs1 elt vs1) vs xs[i] ρi).bind fun p => (compLoop (turnF2 C t cs it1 (turnF C t1 cs1 elt vs1) vs) (xs.drop (i + 1)) p.2).bind fun q => some (p.1 ++ q.1, q.2)) = some (ys2, ρe) from el)
      obtain ⟨⟨ms, ρ3⟩, f2, el⟩ := Option.bind_eq_some_iff.mp el
      cases el
      refine ⟨wk.go _ _ gP i hlt, fun Hn => ∃ ρn acc', compLoop (turnF2 C t cs it1 (turnF C t1 cs1 elt vs1) vs) (xs.drop (i + 1)) ρn = some (ms, ρ3) ∧ Mk X.K X.w (Zp Z L) L (wipeR ρn vs) (wipe σ vs) Hn acc' (ys1 ++ ns) ∧ Go (Ow ρ1 σ) H1 (OwD L (wipeR ρn vs) (wipe σ vs)) Hn, fun Hn ⟨ρn, acc', q1, q3, q4⟩ => ⟨xs.length - (i + 1), by omega, rfl, hlt, ρn, acc', _, ms, q1, by rw [← ey, List.append_assoc], q3, q4⟩, fun x H' y => ?_⟩
      obtain ⟨sm, dx⟩ := wk.yld _ _ gP (fun a q => mk.rel.pp q) i _ (List.getElem?_eq_getElem hlt) x H' y
      -- the first clause
      obtain ⟨σρ1, a1, f1⟩ := Option.bind_eq_some_iff.mp f1
      obtain ⟨⟨k, ρt⟩, a2, f1⟩ := Option.bind_eq_some_iff.mp f1
      have g0 : Go (Ow (wipeR ρi vs) (wipe σ vs)) Hi (Ow (wipeR ρi vs) (wipe σ vs)) H' := Go.same sm fun _ q => .inl q
      have m0 := mk.step zl g0 (mk.rel.same sm)
      refine ⟨Zp Z L, _, xs[i], σρ1, m0.rel, dx, a1, fun σ1 h1 s1 k1 => ?_⟩
      have hw : wipe σ1 vs = wipe σ vs := by
        rw [wipe_eq (by rw [← s1.len, ← m0.rel.len]; exact asgT_len t _ _ _ a1) fun j hj => k1 j fun q => hj (ht j q), wipe_wipe fun _ q => q]
      refine ⟨hw, Zp Z L, σρ1, k, ρt, s1, a2, fun H3 h2 s2 => ?_⟩
      have g3 := (g0.trans h1).trans h2
      have m3 := mk.step zl g3 s2
      cases k with
      | false =>
        refine (⟨ρ2, acc, f2, ?_, ?_⟩ : ∃ ρn acc', compLoop (turnF2 C t cs it1 (turnF C t1 cs1 elt vs1) vs) (xs.drop (i + 1)) ρn = some (ms, ρ3) ∧ Mk X.K X.w (Zp Z L) L (wipeR ρn vs) (wipe σ vs) H3 acc' (ys1 ++ ns) ∧ Go (Ow ρ1 σ) H1 (OwD L (wipeR ρn vs) (wipe σ vs)) H3)
        · cases (show some (([] : List D), ρt) = some (ns, ρ2) from f1)
          have m4 := m3.wipe vs
          rw [hw] at m4
          rw [List.append_nil]
          exact m4
        · cases (show some (([] : List D), ρt) = some (ns, ρ2) from f1)
          exact gg.trans ((Go.up g3).trans (Go.sub (ow_same hw)))
      | true =>
        show tI X.K X.w C it1 σ1 H3 _
        obtain ⟨⟨xs1, ρ4⟩, b1, b2⟩ := Option.bind_eq_some_iff.mp (show ((evI C it1 ρt).bind fun p1 => compLoop (turnF C t1 cs1 elt vs1) p1.1 p1.2) = some (ns, ρ2) from f1)
        refine ⟨Zp Z L, ρt, xs1, ρ4, s2, b1, fun J1 H4 g4 r4 wk1 => ?_⟩
        have m4 := m3.step zl g4 r4
        have m4w := m4.wipe vs1
        refine ⟨fun j k Hj => k = xs1.length - j ∧ j ≤ xs1.length ∧ ∃ ρj acc' zs1 zs2, compLoop (turnF C t1 cs1 elt vs1) (xs1.drop j) ρj = some (zs2, ρ2) ∧ zs1 ++ zs2 = ns ∧ Mk X.K X.w (Zp Z L) L (wipeR ρj vs1) (wipe σ1 vs1) Hj acc' (ys1 ++ zs1) ∧ Go (OwD L ρ4 σ1) H4 (OwD L (wipeR ρj vs1) (wipe σ1 vs1)) Hj,
          ⟨xs1.length, by simp, Nat.zero_le _, ρ4, acc, [], ns, b2, rfl, by rw [List.append_nil]; exact m4w, Go.sub (ow_same rfl)⟩, ?_⟩
        rintro j k Hj ⟨rfl, hj, ρj, acc', zs1, zs2, fl, ez, mkj, gj⟩
        have gPj : Go (PP (Zp Z L) ρ4 σ1) H4 (PP (Zp Z L) (wipeR ρj vs1) (wipe σ1 vs1)) Hj := Go.owD2 zl gj
        by_cases hlt1 : j < xs1.length
        · right
          rw [drop_cons hlt1] at fl
          obtain ⟨⟨n1, ρ5⟩, c1, fl⟩ := Option.bind_eq_some_iff.mp (show ((turnF C t1 cs1 elt vs1 xs1[j] ρj).bind fun p => (compLoop (turnF C t1 cs1 elt vs1) (xs1.drop (j + 1)) p.2).bind fun q => some (p.1 ++ q.1, q.2)) = some (zs2, ρ2) from fl)
          obtain ⟨⟨n2, ρ6⟩, c2, fl⟩ := Option.bind_eq_some_iff.mp fl
          cases fl
          refine ⟨wk1.go _ _ gPj j hlt1, fun Hn => ∃ ρn acc2, compLoop (turnF C t1 cs1 elt vs1) (xs1.drop (j + 1)) ρn = some (n2, ρ6) ∧ Mk X.K X.w (Zp Z L) L (wipeR ρn vs1) (wipe σ1 vs1) Hn acc2 (ys1 ++ (zs1 ++ n1)) ∧ Go (OwD L ρ4 σ1) H4 (OwD L (wipeR ρn vs1) (wipe σ1 vs1)) Hn, fun Hn ⟨ρn, acc2, q1, q3, q4⟩ => ⟨xs1.length - (j + 1), by omega, rfl, hlt1, ρn, acc2, _, n2, q1, by rw [← ez, List.append_assoc], q3, q4⟩, fun x1 Hy y1 => ?_⟩
          obtain ⟨sm1, dx1⟩ := wk1.yld _ _ gPj (fun a q => mkj.rel.pp q) j _ (List.getElem?_eq_getElem hlt1) x1 Hy y1
          refine turn_ok zl mkj sm1 dx1 ht1 c1 (fun hne => ?_) fun H'' acc2 q1 q2 _ => ⟨ρ5, acc2, c2, by rw [← List.append_assoc]; exact q2, gj.trans q1⟩
          have h1 := mkj.den.length
          rw [h1]
          have h2 : ys.length = (ys1 ++ (zs1 ++ (n1 ++ n2) ++ ms)).length := by rw [← ey, ← ez]
          have h3 : 0 < n1.length := List.length_pos_iff.mpr hne
          simp only [List.length_append] at h2 ⊢
          omega
        · left
          have ej : j = xs1.length := by omega
          subst ej
          rw [List.drop_length] at fl
          cases (show some (([] : List D), ρj) = some (zs2, ρ2) from fl)
          refine ⟨wk1.stop _ _ gPj, ρ2, acc', f2, ?_, ?_⟩
          · have m5 := mkj.wipe vs
            rw [wipeR_wipeR hv, wipe_wipe hv, hw] at m5
            rw [List.append_nil] at ez
            rw [← ez]
            exact m5
          · refine gg.trans (((Go.up (g3.trans g4)).trans gj).trans (Go.sub fun a q => ?_))
            have := ow_same (ρ := wipeR ρ2 vs1) (σ := wipe σ1 vs1) (σ1 := wipe σ1 vs1) (vs := vs) (L := L) rfl a
            rw [wipeR_wipeR hv, wipe_wipe hv, hw] at this
            exact this q
    · left
      have ei : i = xs.length := by omega
      subst ei
      rw [List.drop_length] at el
      cases (show some (([] : List D), ρi) = some (ys2, ρe) from el)
      refine ⟨wk.stop _ _ gP, ?_⟩
      obtain ⟨rb, iff⟩ := Rel.back (P := fun _ => True) r1 hno mk.rel gP
      have ppe : ∀ a, PP (Zp Z L) (back ρ1 ρe vs) σ a → PP (Zp Z L) (wipeR ρe vs) (wipe σ vs) a := fun a q => q.imp id (iff a).mp
      have g2 : Go (Ow ρ σ) H (Ow (back ρ1 ρe vs) σ) Hi := (g1.trans gg).trans (Go.sub fun a q => .inl ((iff a).mp q))
      refine hQ _ _ g2 ?_
      have n0 : H L = none := by
        cases e : H L with
        | none => rfl
        | some u => exact absurd nL (g1.dom L (by rw [e]; simp))
      unfold Out
      rw [if_pos (show (freshE (.comp2 vs t it cs vs1 t1 it1 cs1 elt) && isCont (.list ys)) = true from rfl)]
      rw [List.append_nil] at ey
      subst ey
      exact ⟨L, rfl, n0, rb, .lst mk.at_ (mk.den.go (Go.sub ppe))⟩
  · rw [if_neg hno] at h; cases h
end
end DV
end

section
/-! statements: stores -/
namespace DV
open PySem PySem.Spec PyProof.Rows L2

/-- the in-out slots stay -/
def Fx (io : List Bool) (σ σ' : L2.St) : Prop := ∀ i : Nat, io[i]? = some true → σ'[i]? = σ[i]?
theorem Fx.refl {io : List Bool} {σ : L2.St} : Fx io σ σ := fun _ _ => rfl
theorem Fx.trans {io : List Bool} {σ σ1 σ2 : L2.St} (a : Fx io σ σ1) (b : Fx io σ1 σ2) : Fx io σ σ2 := fun i h => (b i h).trans (a i h)
def EndOk (K : PySem.W.Frag) (w : World) (Z : Addr → Prop) (ρ : Ro) (σ : L2.St) (H : Hp) (io : List Bool) (D : Ends) : Fl → Prop
  | .nx ρ' => ∀ σ' H', Go (Ow ρ σ) H (Ow ρ' σ') H' → Rel K w Z ρ' σ' H' → Fx io σ σ' → D.nx σ' H'
  | .bk ρ' => ∀ σ' H', Go (Ow ρ σ) H (Ow ρ' σ') H' → Rel K w Z ρ' σ' H' → Fx io σ σ' → D.bk σ' H'
  | .ct ρ' => ∀ σ' H', Go (Ow ρ σ) H (Ow ρ' σ') H' → Rel K w Z ρ' σ' H' → Fx io σ σ' → D.ct σ' H'
  | .rt d ρ' => ∀ v σ' H', Go (Ow ρ σ) H (Ow ρ' σ') H' → Rel K w Z ρ' σ' H' → Fx io σ σ' → Den K w (PP Z ρ' σ') H' v d → D.rt v H'
def tS (K : PySem.W.Frag) (w : World) (C : Call) (io : List Bool) (s : IS) : TS := fun D σ H => ∃ Z ρ fl, Rel K w Z ρ σ H ∧ exS C s ρ = some fl ∧ EndOk K w Z ρ σ H io D fl
def tSs (K : PySem.W.Frag) (w : World) (C : Call) (io : List Bool) (s : ISs) : TS := fun D σ H => ∃ Z ρ fl, Rel K w Z ρ σ H ∧ exSs C s ρ = some fl ∧ EndOk K w Z ρ σ H io D fl
theorem fx_set {io : List Bool} {σ : L2.St} {i : Nat} {x : Option V} (h : notIoB io i = true) : Fx io σ (σ.set i x) := fun j hj => set_ne' fun e => by
  subst e
  unfold notIoB at h
  rw [hj] at h
  cases h

section
variable {X : Cx} {C : Call} {G : Ck} {sc : Scope} {raw : Option Scope}
theorem _root_.L2.PSs.weaken {e : List Stmt} {t t' : TS} (h : PSs X e t) (m : ∀ D σ H, t' D σ H → t D σ H) : PSs X e t' := ⟨fun pins s σ H D I q => h.run pins s σ H D I (m D σ H q)⟩
/-! ### name = value -/
def isComp : Expr → Bool
  | .ListComp .. => true
  | .SetComp .. => true
  | .DictComp .. => true
  | _ => false
theorem swaps_of {e : Expr} (h : isComp e = false) {t : Option Expr} {l : Nat} {env : Env} : swapsWith e t l env = pure false := by
  cases e <;> first | rfl | cases h
theorem asg_key {i : Nat} {own : Bool} {e : IE} (hf : own = true → freshE e = true) (hio : notIoB G.io i = true) {D : Ends} {σ : L2.St} {H : Hp} (h : tS X.K X.w C G.io (.asg (.nm i) own e) D σ H) : tE X.K X.w C e σ H fun x H1 => gName i x σ H1 D.nx := by
  obtain ⟨Z, ρ, fl, r, ev, hE⟩ := h
  obtain ⟨⟨d, ρ1⟩, e1, h⟩ := Option.map_eq_some_iff.mp (show (evE C e ρ).map (fun p => Fl.nx (p.2.set i (mkSl own p.1))) = some fl from ev)
  subst h
  refine ⟨Z, ρ, d, ρ1, r, e1, fun v H' g o => ?_⟩
  show D.nx (σ.set i (some v)) H'
  cases hc : (own && isCont d) with
  | true =>
    rw [Bool.and_eq_true] at hc
    unfold Out at o
    rw [if_pos (by rw [hf hc.1, hc.2]; rfl)] at o
    obtain ⟨a, rfl, n, r1, c⟩ := o
    have nz : ¬ Z a := fun q => r.z a q n
    obtain ⟨r2, sub⟩ := r1.asgOw nz (i := i) c
    have em : mkSl own d = .ow d := by unfold mkSl; rw [hc.1, hc.2]; rfl
    rw [em] at hE
    exact hE _ _ ⟨g.keep, fun b q => by
      rcases sub b q with q | q
      · exact g.priv b q
      · exact .inr (by rw [q]; exact n), g.dom⟩ r2 (fx_set hio)
  | false =>
    obtain ⟨r1, dv⟩ := o.den r
    have em : mkSl own d = .sh d := by unfold mkSl; rw [hc]; rfl
    rw [em] at hE
    exact hE _ _ (g.trans (Go.sub fun a q => ow_asg q)) (r1.asg dv) (fx_set hio)
theorem s_asg (M : Wr G sc raw X) {i : Nat} {own : Bool} {e : IE} {x : Str} {y : Expr} {p pos : Pos} (ht : ckTg G sc raw (.nm i) (.Name x p) = true) (hf : own = true → freshE e = true) (h : PE X y (tE X.K X.w C e)) (hc : isComp y = false) : PS X (.Assign [.Name x p] y pos) (tS X.K X.w C G.io (.asg (.nm i) own e)) := by
  have ht : (decide (G.N[i]? = some x) && locB sc raw x && notIoB G.io i) = true := ht
  rw [Bool.and_eq_true, Bool.and_eq_true] at ht
  obtain ⟨l1, l2⟩ := locB_iff M ht.1.2
  exact (ps_set M.nd (by rw [M.N]; exact of_decide_eq_true ht.1.1) l1 h (swaps_of hc) l2).weaken fun D σ H q => asg_key hf ht.2 q
/-- a tuple of names = value -/
def noTup : Expr → Bool
  | .Tuple .. => false
  | _ => true
theorem swapped_val {t v : Expr} {env : Env} (h : noTup v = true) : swappedStores [t] v env = pure none := by
  cases v <;> first | cases h; done | (cases t <;> rfl)
theorem s_asgT (M : Wr G sc raw X) {ts : Tgs} {e : IE} {y : Expr} {es : List Expr} {k : Nat} {p pos : Pos} (ht : ckTg G sc raw (.tp ts) (.Tuple es k p) = true) (hio : ∀ i ∈ tnss ts, notIoB G.io i = true) (h : PE X y (tE X.K X.w C e)) (hy : noTup y = true) :
    PS X (.Assign [.Tuple es k p] y pos) (tS X.K X.w C G.io (.asg (.tp ts) false e)) := by
  refine (ps_asg h (tg_ok M ht) (by cases y <;> rfl) (swapped_val hy) rfl).weaken fun D σ H q => ?_
  obtain ⟨Z, ρ, fl, r, ev, hE⟩ := q
  obtain ⟨⟨d, ρ1⟩, e1, q⟩ := Option.bind_eq_some_iff.mp (show ((evE C e ρ).bind fun p => (asgT (.tp ts) p.1 p.2).map Fl.nx) = some fl from ev)
  obtain ⟨ρ2, e2, q⟩ := Option.map_eq_some_iff.mp q
  subst q
  refine ⟨Z, ρ, d, ρ1, r, e1, fun v H' g o => ?_⟩
  obtain ⟨r1, dv⟩ := o.den r
  refine ⟨Z, ρ1, d, ρ2, r1, dv, e2, fun σ' g' r' k' => hE σ' H' (g.trans g') r' fun i hi => k' i fun m => ?_⟩
  have := hio i m
  unfold notIoB at this
  rw [hi] at this
  cases this
/-- comprehensions are stored while their names come back -/
def swB (sc : Scope) (x : Str) (p q : Pos) (scope : Scope) : Bool := (match sc.kind with | .function => true | _ => false) && (match sc.names.lookup x with | some .local => true | _ => false) && (p.line == q.line) && !(scope.names.any fun y => y.1 == x && (y.2 == .local || y.2 == .cell))
theorem swB_iff (hs : X.env.scope = sc) {elt : Expr} {gs : List Comprehension} {scope : Scope} {q p : Pos} {x : Str} {l : Nat} (h : swB sc x p q scope = true) : X.env.scope.names.lookup x = some .local ∧ swapsWith (.ListComp elt gs scope q) (some (.Name x p)) l X.env = pure true := by
  unfold swB at h
  rw [Bool.and_eq_true, Bool.and_eq_true, Bool.and_eq_true] at h
  obtain ⟨⟨⟨h1, h2⟩, h3⟩, h4⟩ := h
  have e2 : X.env.scope.names.lookup x = some .local := by
    rw [hs]
    split at h2
    · assumption
    · cases h2
  refine ⟨e2, sw_true ?_ e2 h3 (by simpa using h4)⟩
  rw [hs]
  split at h1
  · assumption
  · cases h1

/-! ### name op= value -/
theorem ip_aug (o : Operator) : PIp X o (r2D X (augF o) false) := by
  intro pins s σ H x y v u Q I rx ry ⟨P, dx, dy, d, hP, hx, hy, hf, q⟩
  unfold augF at hf
  split at hf
  · cases hf
    rw [hx.int] at rx; rw [hy.int] at ry
    exact iop_add pins s σ H _ _ v u Q I rx ry ⟨_, _, rfl, rfl, q.old (.int _)⟩
  · cases hf
    rw [hx.int] at rx; rw [hy.int] at ry
    exact iop_sub pins s σ H _ _ v u Q I rx ry ⟨_, _, rfl, rfl, q.old (.int _)⟩
  · obtain ⟨c, e⟩ := ite_some hf
    subst e
    rw [hx.str.1] at rx; rw [hy.str.1] at ry
    exact iop_add_str pins s σ H _ _ v u Q I rx ry ⟨_, _, rfl, rfl, c, q.old (.str _ (by show (_ ++ _ : Str).length ≤ _; rw [Str.length_append]; exact c))⟩
  · cases hf
theorem aug_flat {o : Operator} {a b d : D} (h : augF o a b = some d) : isCont d = false := by
  unfold augF at h
  split at h
  · cases h; rfl
  · cases h; rfl
  · obtain ⟨_, e⟩ := ite_some h; subst e; rfl
  · cases h
theorem s_aug (M : Wr G sc raw X) {i : Nat} {o : Operator} {e : IE} {x : Str} {y : Expr} {p pos : Pos} (ht : ckTg G sc raw (.nm i) (.Name x p) = true) (h : PE X y (tE X.K X.w C e)) : PS X (.AugAssign (.Name x p) o y pos) (tS X.K X.w C G.io (.aug i o e)) := by
  have ht : (decide (G.N[i]? = some x) && locB sc raw x && notIoB G.io i) = true := ht
  rw [Bool.and_eq_true, Bool.and_eq_true] at ht
  obtain ⟨l1, l2⟩ := locB_iff M ht.1.2
  refine (ps_aug M.nd (by rw [M.N]; exact of_decide_eq_true ht.1.1) l1 h (ip_aug o) l2).weaken fun D σ H q => ?_
  obtain ⟨Z, ρ, fl, r, ev, hE⟩ := q
  obtain ⟨d0, e0, q⟩ := Option.bind_eq_some_iff.mp (show ((getAny ρ i).bind fun _ => (evE C e ρ).bind fun p => (getSh p.2 i).bind fun x => (augF o x p.1).map fun d => Fl.nx (p.2.set i (.sh d))) = some fl from ev)
  obtain ⟨⟨d, ρ1⟩, e1, q⟩ := Option.bind_eq_some_iff.mp q
  obtain ⟨dx, e2, q⟩ := Option.bind_eq_some_iff.mp q
  obtain ⟨dr, e3, q⟩ := Option.map_eq_some_iff.mp q
  subst q
  obtain ⟨v, ev, _⟩ := r.any e0
  refine ⟨v, ev, Z, ρ, d, ρ1, r, e1, fun u H1 g1 o1 => ?_⟩
  obtain ⟨r1, du⟩ := o1.den r
  obtain ⟨v', ev', dv⟩ := r1.sh i dx (getSh_some e2)
  rw [ev] at ev'
  cases ev'
  refine ⟨PP Z ρ1 σ, dx, d, dr, fun a q => r1.pp q, .inl dv, .inl du, e3, fun z H2 s2 q2 => ?_⟩
  rw [show (false && isCont dr) = false from rfl, if_neg Bool.false_ne_true] at q2
  have g2 : Go (Ow ρ1 σ) H1 (Ow ρ1 σ) H2 := Go.same s2 fun _ q => .inl q
  have r2 := r1.same s2
  exact hE _ _ ((g1.trans g2).trans (Go.sub fun a q => ow_asg q)) (r2.asg q2) (fx_set ht.2)
end
end DV
end

section
/-! statements: items, blocks, loops -/
namespace DV
open PySem PySem.Spec PyProof.Rows L2
section
variable {X : Cx} {C : Call} {G : Ck} {sc : Scope} {raw : Option Scope}
/-! ### o[k] = v -/
def tSetD (X : Cx) : TSet := fun o k v H Q => ∃ P a c dk dv c', o = .ref a ∧ Cont X.K X.w P H a c ∧ DenT X.K X.w P H k dk ∧ Den X.K X.w P H v dv ∧ setIxF c dk dv = some c' ∧ ∀ ho : HO, (∀ P', Go P H P' (upd H a ho) → Cont X.K X.w P' (upd H a ho) a c') → Q (upd H a ho)
theorem set_allD (hu : X.A.units + 100 < cLine) : PSet X (tSetD X) := by
  intro pins s σ H o i v ov iv u Q I ro ri rv ⟨P, a, c, dk, dv, c', eo, hc, hk, hv, hf, q⟩
  subst eo
  cases hc with
  | lst hH l =>
    rename_i xs ds
    cases dk with
    | int k =>
      obtain ⟨j, hj, e⟩ := Option.map_eq_some_iff.mp (show (ixN ds.length k).map (fun k => PyData.list (ds.set k dv)) = some c' from hf)
      subst e
      rw [hk.int] at ri
      exact set_list pins s σ H _ _ v ov iv u Q I ro ri rv ⟨a, xs, k, j, rfl, rfl, hH, by rw [l.length]; exact hj, q _ fun P' g => .lst upd_same ((DenL.go g l).set j (hv.go g))⟩
    | _ => cases (show Option.none = some c' from hf)
  | dic hd l =>
    rename_i es kvs
    have hf : (dputF kvs dk dv).map PyData.dict = some c' := by cases dk <;> exact hf
    obtain ⟨kvs', e1, e2⟩ := Option.map_eq_some_iff.mp hf
    subst e2
    unfold dputF at e1
    obtain ⟨hc, e3⟩ := ite_some e1
    subst e3
    rw [Bool.and_eq_true] at hc
    cases ro
    refine dic_set hu I hd l hk ri hc.1 (of_decide_eq_true hc.2) rv hv fun es' o' da de s' I' => ⟨_, I', q _ fun P' g => .dic da (DenE.go g de)⟩
theorem sub_ok {k : Expr} (h : isSlice k = false) {o : Expr} {pos : Pos} : ∀ v, assign (.Subscript o k pos) X.env v = (do
      let ov ← holding [v] (eval o X.env)
      let iv ← holding [v, ov] (eval k X.env)
      standAt pos
      holding [v, ov, iv] (setItem ov iv v)
      release [v, ov, iv] []) := by
  intro v
  cases k <;> first | rfl | cases h
theorem s_setIx (hu : X.A.units + 100 < cLine) {i : Nat} {k e : IE} {x : Str} {kx y : Expr} {p p2 pos : Pos} (ho : PE X (.Name x p) (tVar i)) (hk : PE X kx (tE X.K X.w C k)) (he : PE X y (tE X.K X.w C e)) (hs : isSlice kx = false) {io : List Bool} :
    PS X (.Assign [.Subscript (.Name x p) kx p2] y pos) (tS X.K X.w C io (.setIx i k e)) := by
  refine (ps_asg he (pg_sub ho hk (set_allD hu) (sub_ok hs)) (by cases y <;> rfl) (by cases y <;> rfl) rfl).weaken fun D σ H q => ?_
  obtain ⟨Z, ρ, fl, r, ev, hE⟩ := q
  obtain ⟨⟨d, ρ1⟩, e1, q⟩ := Option.bind_eq_some_iff.mp (show ((evE C e ρ).bind fun p => (getOw p.2 i).bind fun _ => (evE C k p.2).bind fun q => (getOw q.2 i).bind fun c => (setIxF c q.1 p.1).map fun c' => Fl.nx (q.2.set i (.ow c'))) = some fl from ev)
  obtain ⟨c0, e0, q⟩ := Option.bind_eq_some_iff.mp q
  obtain ⟨⟨dk, ρ2⟩, e2, q⟩ := Option.bind_eq_some_iff.mp q
  obtain ⟨c, e3, q⟩ := Option.bind_eq_some_iff.mp q
  obtain ⟨c', e4, q⟩ := Option.map_eq_some_iff.mp q
  subst q
  refine ⟨Z, ρ, d, ρ1, r, e1, fun v H1 g1 o1 => ?_⟩
  obtain ⟨r1, dv⟩ := o1.den r
  obtain ⟨a, ea, _, _⟩ := r1.ow i c0 (getOw_some e0)
  refine ⟨.ref a, ea, Z, ρ1, dk, ρ2, r1, e2, fun u H2 g2 o2 => ?_⟩
  obtain ⟨r2, dk2⟩ := o2.den r1
  have dv2 := dv.go (g2.pp (Z := Z) (Z' := Z) fun _ q => .inl q)
  obtain ⟨a', ea', _, ca⟩ := r2.ow i c (getOw_some e3)
  rw [ea] at ea'
  cases ea'
  refine ⟨PP Z ρ2 σ, a, c, dk, d, c', rfl, ca, .inl dk2, dv2, e4, fun o hc => ?_⟩
  obtain ⟨w1, w2, w3⟩ := r2.write (c' := c') (getOw_some e3) ea o
  exact hE σ _ ((g1.trans g2).trans w1) (w3 (hc _ w2)) Fx.refl

/-! ### o[k] op= v -/
def tGetD (X : Cx) : V → V → Hp → VK → Prop := fun o k H Q => ∃ P a c dk d, PIn P H ∧ o = .ref a ∧ Cont X.K X.w P H a c ∧ DenT X.K X.w P H k dk ∧ ixF c dk = some d ∧ ∀ v, Den X.K X.w P H v d → Q v H
theorem get_allD (hu : X.A.units + 100 < cLine) : PGet X (tGetD X) := by
  intro pins s σ H o i ov iv Q I ro ri ⟨P, a, c, dk, d, hP, eo, hc, hk, hf, q⟩
  subst eo
  cases ro
  cases hc with
  | lst hH l =>
    rename_i xs ds
    cases dk with
    | int k =>
      obtain ⟨v, hv, dv⟩ := den_at l (show atI ds k = some d from hf)
      obtain ⟨j, hj, ev⟩ := Option.bind_eq_some_iff.mp (show ((ixN xs.length k).bind fun j => xs[j]?) = some v from hv)
      rw [hk.int] at ri
      obtain ⟨t, rfl⟩ := ri
      obtain ⟨its, r, pl, hz⟩ := I.list (SqL.of hH)
      obtain ⟨h1, h2, h3, h4⟩ := ixN_seq hj
      have hl := r.length
      have hn := line63
      obtain ⟨w', hw, rw'⟩ := r.get ev
      have fin : EP X pins σ Q w' s := ⟨v, H, I, rw', q v dv⟩
      by_cases h0 : 0 ≤ k
      · have ek : k.toNat = j := by
          rw [seqIndex_of h0 h4] at h1
          exact Option.some.inj h1
        exact wpAny_getItem_list pl.isList h0 (by omega) (by rw [ek]; simpa using hw) fin
      · have ek : (k + (its.toArray.size : Int)).toNat = j := by
          rw [seqIndex_neg (by omega) h3] at h1
          rw [List.size_toArray, ← hl]
          exact Option.some.inj h1
        exact wpAny_getItem_list_neg pl.isList (by omega) (by rw [List.size_toArray]; omega) (by omega) (by rw [ek]; simpa using hw) fin
    | _ => cases (show Option.none = some d from hf)
  | dic hd l =>
    rename_i es kvs
    have hf : (if keyOk kvs dk then dget kvs dk else none) = some d := by cases dk <;> exact hf
    by_cases c : keyOk kvs dk = true
    · rw [if_pos c] at hf
      exact dic_item hu I hd l hk ri c hf fun x w' s' I' rx dx => ⟨x, H, I', rx, q x dx⟩
    · rw [if_neg c] at hf; cases hf
theorem augStore_ok {k : Expr} (h : isSlice k = false) : ∀ ov iv new, augStore k ov iv new = (do holding [new, ov, iv] (setItem ov iv new); release [new, ov, iv] []; pure .next) := by
  intro ov iv new
  cases k <;> first | rfl | cases h
theorem s_augIx (hu : X.A.units + 100 < cLine) {i : Nat} {o : Operator} {k e : IE} {x : Str} {kx y : Expr} {p p2 pos : Pos} (ho : PE X (.Name x p) (tVar i)) (hk : PE X kx (tE X.K X.w C k)) (he : PE X y (tE X.K X.w C e)) (hs : isSlice kx = false) {io : List Bool} :
    PS X (.AugAssign (.Subscript (.Name x p) kx p2) o y pos) (tS X.K X.w C io (.augIx i k o e)) := by
  refine (ps_augS ho hk (get_allD hu) he (ip_aug o) (set_allD hu) (augStore_ok hs)).weaken fun D σ H q => ?_
  obtain ⟨Z, ρ, fl, r, ev, hE⟩ := q
  obtain ⟨c00, e00, q⟩ := Option.bind_eq_some_iff.mp (show ((getOw ρ i).bind fun _ => (evE C k ρ).bind fun p => (getOw p.2 i).bind fun c => (ixF c p.1).bind fun old => (evE C e p.2).bind fun q => (augF o old q.1).bind fun new =>
      (getOw q.2 i).bind fun c2 => (setIxF c2 p.1 new).map fun c' => Fl.nx (q.2.set i (.ow c'))) = some fl from ev)
  obtain ⟨⟨dk, ρ1⟩, e1, q⟩ := Option.bind_eq_some_iff.mp q
  obtain ⟨c, e2, q⟩ := Option.bind_eq_some_iff.mp q
  obtain ⟨old, e3, q⟩ := Option.bind_eq_some_iff.mp q
  obtain ⟨⟨d, ρ2⟩, e4, q⟩ := Option.bind_eq_some_iff.mp q
  obtain ⟨new, e5, q⟩ := Option.bind_eq_some_iff.mp q
  obtain ⟨c2, e6, q⟩ := Option.bind_eq_some_iff.mp q
  obtain ⟨c', e7, q⟩ := Option.map_eq_some_iff.mp q
  subst q
  obtain ⟨a, ea, _, _⟩ := r.ow i c00 (getOw_some e00)
  refine ⟨.ref a, ea, Z, ρ, dk, ρ1, r, e1, fun u H1 g1 o1 => ?_⟩
  obtain ⟨r1, dk1⟩ := o1.den r
  obtain ⟨a', ea', _, ca⟩ := r1.ow i c (getOw_some e2)
  rw [ea] at ea'
  cases ea'
  refine ⟨PP Z ρ1 σ, a, c, dk, old, fun a q => r1.pp q, rfl, ca, .inl dk1, e3, fun v dv => ?_⟩
  refine ⟨Z, ρ1, d, ρ2, r1, e4, fun y H2 g2 o2 => ?_⟩
  obtain ⟨r2, dy⟩ := o2.den r1
  have gp := g2.pp (Z := Z) (Z' := Z) fun _ q => .inl q
  refine ⟨PP Z ρ2 σ, old, d, new, fun a q => r2.pp q, .inl (dv.go gp), .inl dy, e5, fun z H3 s3 q3 => ?_⟩
  rw [show (false && isCont new) = false from rfl, if_neg Bool.false_ne_true] at q3
  have r3 := r2.same s3
  have g3 : Go (Ow ρ2 σ) H2 (Ow ρ2 σ) H3 := Go.same s3 fun _ q => .inl q
  obtain ⟨a', ea', _, ca⟩ := r3.ow i c2 (getOw_some e6)
  rw [ea] at ea'
  cases ea'
  refine ⟨PP Z ρ2 σ, a, c2, dk, new, c', rfl, ca, .inl ((dk1.go gp).go (g3.pp (Z := Z) (Z' := Z) fun _ q => .inl q)), q3, e7, fun o hc => ?_⟩
  obtain ⟨w1, w2, w3⟩ := r3.write (c' := c') (getOw_some e6) ea o
  exact hE σ _ (((g1.trans g2).trans g3).trans w1) (w3 (hc _ w2)) Fx.refl

/-! ### small statements, blocks -/
theorem s_exp {e : IE} {y : Expr} {pos : Pos} {io : List Bool} (h : PE X y (tE X.K X.w C e)) (hc : isComp y = false) : PS X (.Expr y pos) (tS X.K X.w C io (.exp e)) := by
  refine (ps_expr h (swaps_of hc)).weaken fun D σ H q => ?_
  obtain ⟨Z, ρ, fl, r, ev, hE⟩ := q
  obtain ⟨⟨d, ρ1⟩, e1, q⟩ := Option.map_eq_some_iff.mp (show (evE C e ρ).map (fun p => Fl.nx p.2) = some fl from ev)
  subst q
  exact ⟨Z, ρ, d, ρ1, r, e1, fun v H' g o => hE σ H' g (o.den r).1 Fx.refl⟩
theorem s_ret {e : IE} {y : Expr} {pos : Pos} {io : List Bool} (h : PE X y (tE X.K X.w C e)) : PS X (.Return (some y) pos) (tS X.K X.w C io (.ret e)) := by
  refine (ps_ret h).weaken fun D σ H q => ?_
  obtain ⟨Z, ρ, fl, r, ev, hE⟩ := q
  obtain ⟨⟨d, ρ1⟩, e1, q⟩ := Option.map_eq_some_iff.mp (show (evE C e ρ).map (fun p => Fl.rt p.1 p.2) = some fl from ev)
  subst q
  exact ⟨Z, ρ, d, ρ1, r, e1, fun v H' g o => hE v σ H' g (o.den r).1 Fx.refl (o.den r).2⟩
theorem s_retN {pos : Pos} {io : List Bool} : PS X (.Return none pos) (tS X.K X.w C io .retN) := by
  refine ps_retN.weaken fun D σ H q => ?_
  obtain ⟨Z, ρ, fl, r, ev, hE⟩ := q
  cases (show some (Fl.rt .none ρ) = some fl from ev)
  exact hE .non σ H Go.refl r Fx.refl .non
theorem s_pass {pos : Pos} {io : List Bool} : PS X (.Pass pos) (tS X.K X.w C io .pass) := by
  refine ps_pass.weaken fun D σ H q => ?_
  obtain ⟨Z, ρ, fl, r, ev, hE⟩ := q
  cases (show some (Fl.nx ρ) = some fl from ev)
  exact hE σ H Go.refl r Fx.refl
theorem s_brk {pos : Pos} {io : List Bool} : PS X (.Break pos) (tS X.K X.w C io .brk) := by
  refine ps_break.weaken fun D σ H q => ?_
  obtain ⟨Z, ρ, fl, r, ev, hE⟩ := q
  cases (show some (Fl.bk ρ) = some fl from ev)
  exact hE σ H Go.refl r Fx.refl
theorem s_cont {pos : Pos} {io : List Bool} : PS X (.Continue pos) (tS X.K X.w C io .cont) := by
  refine ps_continue.weaken fun D σ H q => ?_
  obtain ⟨Z, ρ, fl, r, ev, hE⟩ := q
  cases (show some (Fl.ct ρ) = some fl from ev)
  exact hE σ H Go.refl r Fx.refl
theorem s_fail {st : Stmt} {io : List Bool} : PS X st (tS X.K X.w C io .fail) := ⟨fun pins s σ H D I q => by
  obtain ⟨Z, ρ, fl, r, ev, hE⟩ := q
  cases (show none = some fl from ev)⟩
/-- from a later state -/
theorem EndOk.pre {K : PySem.W.Frag} {w : World} {Z : Addr → Prop} {ρ ρ1 : Ro} {σ σ1 : L2.St} {H H1 : Hp} {io : List Bool} {D : Ends} {fl : Fl} (g : Go (Ow ρ σ) H (Ow ρ1 σ1) H1) (f : Fx io σ σ1) (h : EndOk K w Z ρ σ H io D fl) : EndOk K w Z ρ1 σ1 H1 io D fl := by
  cases fl with
  | nx ρ' => exact fun σ' H' g' r' f' => h σ' H' (g.trans g') r' (f.trans f')
  | bk ρ' => exact fun σ' H' g' r' f' => h σ' H' (g.trans g') r' (f.trans f')
  | ct ρ' => exact fun σ' H' g' r' f' => h σ' H' (g.trans g') r' (f.trans f')
  | rt d ρ' => exact fun v σ' H' g' r' f' dv => h v σ' H' (g.trans g') r' (f.trans f') dv
theorem s_nil {io : List Bool} : PSs X [] (tSs X.K X.w C io .nil) := by
  refine pss_nil.weaken fun D σ H q => ?_
  obtain ⟨Z, ρ, fl, r, ev, hE⟩ := q
  cases (show some (Fl.nx ρ) = some fl from ev)
  exact hE σ H Go.refl r Fx.refl
theorem s_cons {s : IS} {ss : ISs} {st : Stmt} {sts : List Stmt} {io : List Bool} (h1 : PS X st (tS X.K X.w C io s)) (h2 : PSs X sts (tSs X.K X.w C io ss)) : PSs X (st :: sts) (tSs X.K X.w C io (.cons s ss)) := by
  refine (pss_cons h1 h2).weaken fun D σ H q => ?_
  obtain ⟨Z, ρ, fl, r, ev, hE⟩ := q
  obtain ⟨f1, e1, q⟩ := Option.bind_eq_some_iff.mp (show ((exS C s ρ).bind fun r => match r with | .nx ρ' => exSs C ss ρ' | r => some r) = some fl from ev)
  refine ⟨Z, ρ, f1, r, e1, ?_⟩
  cases f1 with
  | nx ρ' => exact fun σ' H' g r' f => ⟨Z, ρ', fl, r', q, hE.pre g f⟩
  | bk ρ' => cases (show some (Fl.bk ρ') = some fl from q); exact hE
  | ct ρ' => cases (show some (Fl.ct ρ') = some fl from q); exact hE
  | rt d ρ' => cases (show some (Fl.rt d ρ') = some fl from q); exact hE
/-- a docstring -/
theorem s_doc {ss : ISs} {x : Str} {j : Nat} {p q : Pos} {sts : List Stmt} {io : List Bool} (h2 : PSs X sts (tSs X.K X.w C io ss)) : PSs X (.Expr (.Constant (.str x) j p) q :: sts) (tSs X.K X.w C io ss) :=
  (pss_cons ps_doc h2).weaken fun D σ H q => q
theorem s_iff {c : IE} {a b : ISs} {z : Expr} {as bs : List Stmt} {pos : Pos} {io : List Bool} (hc : PT X z (tT X.K X.w C c)) (ha : PSs X as (tSs X.K X.w C io a)) (hb : PSs X bs (tSs X.K X.w C io b)) : PS X (.If z as bs pos) (tS X.K X.w C io (.iff c a b)) := by
  refine (ps_if hc ha hb).weaken fun D σ H q => ?_
  obtain ⟨Z, ρ, fl, r, ev, hE⟩ := q
  obtain ⟨⟨d, ρ1⟩, e1, q⟩ := Option.bind_eq_some_iff.mp (show ((evE C c ρ).bind fun p => (truthF p.1).bind fun k => if k then exSs C a p.2 else exSs C b p.2) = some fl from ev)
  obtain ⟨k, e2, q⟩ := Option.bind_eq_some_iff.mp q
  refine ⟨Z, ρ, d, ρ1, k, r, e1, e2, fun H' g r' => ?_⟩
  cases k with
  | true => exact ⟨Z, ρ1, fl, r', q, hE.pre g Fx.refl⟩
  | false => exact ⟨Z, ρ1, fl, r', q, hE.pre g Fx.refl⟩
end
end DV
end

section
/-! loops; several names at once -/
namespace DV
open PySem PySem.Spec PyProof.Rows L2
section
variable {X : Cx} {C : Call} {G : Ck} {sc : Scope} {raw : Option Scope}
def forF (C : Call) (t : Tg) (b : ISs) (x : D) (ρ : Ro) : Option Fl := (asgT t x ρ).bind fun ρ1 => exSs C b ρ1
theorem s_for (hp : PassesOwn (model X.prog X.w) X.A X.env X.xe) (M : Wr G sc raw X) {t : Tg} {it : It} {b : ISs} {tx ix : Expr} {bs : List Stmt} {pos : Pos} (ht : ckTg G sc raw t tx = true) (hio : ∀ i ∈ tns t, notIoB G.io i = true) (hi : PI X tx ix (tI X.K X.w C it)) (hb : PSs X bs (tSs X.K X.w C G.io b)) (hs : isSetD ix = false) :
    PS X (.For tx ix bs [] pos) (tS X.K X.w C G.io (.for_ t it b)) := by
  refine (ps_for hp M.calm hi (tg_ok M ht) hb (folded_of hs)).weaken fun D σ H q => ?_
  obtain ⟨Z, ρ, fl, r, ev, hE⟩ := q
  obtain ⟨⟨xs, ρ1⟩, e1, q⟩ := Option.bind_eq_some_iff.mp (show ((evI C it ρ).bind fun p => forLoop (forF C t b) p.1 p.2) = some fl from ev)
  refine ⟨Z, ρ, xs, ρ1, r, e1, fun J H1 g1 r1 wk => ?_⟩
  refine ⟨fun i m σi Hi => m = xs.length - i ∧ i ≤ xs.length ∧ ∃ ρi, forLoop (forF C t b) (xs.drop i) ρi = some fl ∧ Rel X.K X.w Z ρi σi Hi ∧ Go (Ow ρ1 σ) H1 (Ow ρi σi) Hi ∧ Fx G.io σ σi, ⟨xs.length, by simp, Nat.zero_le _, ρ1, q, r1, Go.refl, Fx.refl⟩, ?_⟩
  rintro i m σi Hi ⟨rfl, hil, ρi, el, ri, gi, fi⟩
  have gP : Go (PP Z ρ1 σ) H1 (PP Z ρi σi) Hi := gi.pp fun _ q => .inl q
  by_cases hlt : i < xs.length
  · right
    rw [drop_cons hlt] at el
    obtain ⟨f1, e2, el⟩ := Option.bind_eq_some_iff.mp (show ((forF C t b xs[i] ρi).bind fun r => match r with
      | .nx ρ' => forLoop (forF C t b) (xs.drop (i + 1)) ρ'
      | .ct ρ' => forLoop (forF C t b) (xs.drop (i + 1)) ρ'
      | .bk ρ' => some (.nx ρ')
      | .rt d ρ' => some (.rt d ρ')) = some fl from el)
    obtain ⟨ρ2, e3, e4⟩ := Option.bind_eq_some_iff.mp e2
    refine ⟨wk.go _ _ gP i hlt, fun σn Hn => ∃ ρn, forLoop (forF C t b) (xs.drop (i + 1)) ρn = some fl ∧ Rel X.K X.w Z ρn σn Hn ∧ Go (Ow ρ1 σ) H1 (Ow ρn σn) Hn ∧ Fx G.io σ σn, fun σ' H' ⟨ρn, a1, a2, a3, a4⟩ => ⟨xs.length - (i + 1), by omega, rfl, hlt, ρn, a1, a2, a3, a4⟩, fun x H' y => ?_⟩
    obtain ⟨sm, dx⟩ := wk.yld _ _ gP (fun a q => ri.pp q) i _ (List.getElem?_eq_getElem hlt) x H' y
    have g2 : Go (Ow ρi σi) Hi (Ow ρi σi) H' := Go.same sm fun _ q => .inl q
    refine ⟨Z, ρi, xs[i], ρ2, ri.same sm, dx, e3, fun σ2 g3 r3 k3 => ?_⟩
    have f3 : Fx G.io σ σ2 := fi.trans fun j hj => k3 j fun m => by
      have := hio j m
      unfold notIoB at this
      rw [hj] at this
      cases this
    have g4 := (gi.trans g2).trans g3
    refine ⟨Z, ρ2, f1, r3, e4, ?_⟩
    cases f1 with
    | nx ρ' => exact fun σ' H'' g' r' f' => ⟨ρ', el, r', g4.trans g', f3.trans f'⟩
    | ct ρ' => exact fun σ' H'' g' r' f' => ⟨ρ', el, r', g4.trans g', f3.trans f'⟩
    | bk ρ' =>
      cases (show some (Fl.nx ρ') = some fl from el)
      exact fun σ' H'' g' r' f' => hE σ' H'' ((g1.trans g4).trans g') r' (f3.trans f')
    | rt d ρ' =>
      cases (show some (Fl.rt d ρ') = some fl from el)
      exact fun v σ' H'' g' r' f' dv => hE v σ' H'' ((g1.trans g4).trans g') r' (f3.trans f') dv
  · left
    have ei : i = xs.length := by omega
    subst ei
    rw [List.drop_length] at el
    cases (show some (Fl.nx ρi) = some fl from el)
    exact ⟨wk.stop _ _ gP, hE σi Hi (g1.trans gi) ri fi⟩
theorem s_while (hp : PassesOwn (model X.prog X.w) X.A X.env X.xe) {c : IE} {b : ISs} {z : Expr} {bs : List Stmt} {pos : Pos} {io : List Bool} (hc : PT X z (tT X.K X.w C c)) (hb : PSs X bs (tSs X.K X.w C io b)) : PS X (.While z bs [] pos) (tS X.K X.w C io (.while_ c b)) := by
  refine (ps_while hp hc hb).weaken fun D σ H q => ?_
  obtain ⟨Z, ρ, fl, r, ev, hE⟩ := q
  have ev : whileLoop (fun ρ => (evE C c ρ).bind fun p => (truthF p.1).map fun k => (k, p.2)) (fun ρ => exSs C b ρ) turnsMost ρ = some fl := ev
  refine ⟨fun m σi Hi => ∃ ρi, whileLoop (fun ρ => (evE C c ρ).bind fun p => (truthF p.1).map fun k => (k, p.2)) (fun ρ => exSs C b ρ) m ρi = some fl ∧ Rel X.K X.w Z ρi σi Hi ∧ Go (Ow ρ σ) H (Ow ρi σi) Hi ∧ Fx io σ σi, ⟨turnsMost, ρ, ev, r, Go.refl, Fx.refl⟩, ?_⟩
  rintro m σi Hi ⟨ρi, el, ri, gi, fi⟩
  cases m with
  | zero => cases el
  | succ m =>
    obtain ⟨⟨k, ρ2⟩, e1, el⟩ := Option.bind_eq_some_iff.mp (show ((((evE C c ρi).bind fun p => (truthF p.1).map fun k => (k, p.2))).bind fun p => if p.1 then (exSs C b p.2).bind fun r => match r with
      | .nx ρ' => whileLoop (fun ρ => (evE C c ρ).bind fun p => (truthF p.1).map fun k => (k, p.2)) (fun ρ => exSs C b ρ) m ρ'
      | .ct ρ' => whileLoop (fun ρ => (evE C c ρ).bind fun p => (truthF p.1).map fun k => (k, p.2)) (fun ρ => exSs C b ρ) m ρ'
      | .bk ρ' => some (.nx ρ')
      | .rt d ρ' => some (.rt d ρ')
    else some (.nx p.2)) = some fl from el)
    obtain ⟨⟨d, ρ3⟩, e2, e3⟩ := Option.bind_eq_some_iff.mp e1
    obtain ⟨k', e4, e3⟩ := Option.map_eq_some_iff.mp e3
    cases e3
    refine ⟨Z, ρi, d, ρ3, k, ri, e2, e4, fun H1 g1 r1 => ?_⟩
    have g2 := gi.trans g1
    cases k with
    | false =>
      show D.nx σi H1
      cases (show some (Fl.nx ρ3) = some fl from el)
      exact hE σi H1 g2 r1 fi
    | true =>
      obtain ⟨f1, e5, el⟩ := Option.bind_eq_some_iff.mp (show ((exSs C b ρ3).bind fun r => match r with
        | .nx ρ' => whileLoop (fun ρ => (evE C c ρ).bind fun p => (truthF p.1).map fun k => (k, p.2)) (fun ρ => exSs C b ρ) m ρ'
        | .ct ρ' => whileLoop (fun ρ => (evE C c ρ).bind fun p => (truthF p.1).map fun k => (k, p.2)) (fun ρ => exSs C b ρ) m ρ'
        | .bk ρ' => some (.nx ρ')
        | .rt d ρ' => some (.rt d ρ')) = some fl from el)
      refine (⟨fun σn Hn => ∃ ρn, whileLoop (fun ρ => (evE C c ρ).bind fun p => (truthF p.1).map fun k => (k, p.2)) (fun ρ => exSs C b ρ) m ρn = some fl ∧ Rel X.K X.w Z ρn σn Hn ∧ Go (Ow ρ σ) H (Ow ρn σn) Hn ∧ Fx io σ σn, fun σ' H' q => ⟨m, Nat.lt_succ_self _, q⟩, Z, ρ3, f1, r1, e5, ?_⟩ :
        ∃ N : L2.St → Hp → Prop, (∀ σ' H', N σ' H' → ∃ m', m' < m + 1 ∧ ∃ ρi, whileLoop (fun ρ => (evE C c ρ).bind fun p => (truthF p.1).map fun k => (k, p.2)) (fun ρ => exSs C b ρ) m' ρi = some fl ∧ Rel X.K X.w Z ρi σ' H' ∧ Go (Ow ρ σ) H (Ow ρi σ') H' ∧ Fx io σ σ') ∧ tSs X.K X.w C io b { D with nx := N, ct := N, bk := D.nx } σi H1)
      cases f1 with
      | nx ρ' => exact fun σ' H'' g' r' f' => ⟨ρ', el, r', g2.trans g', fi.trans f'⟩
      | ct ρ' => exact fun σ' H'' g' r' f' => ⟨ρ', el, r', g2.trans g', fi.trans f'⟩
      | bk ρ' =>
        cases (show some (Fl.nx ρ') = some fl from el)
        exact fun σ' H'' g' r' f' => hE σ' H'' (g2.trans g') r' (fi.trans f')
      | rt d ρ' =>
        cases (show some (Fl.rt d ρ') = some fl from el)
        exact fun v σ' H'' g' r' f' dv => hE v σ' H'' (g2.trans g') r' (fi.trans f') dv

/-! ### several names at once -/
/-- an item on its way: is it to be its slot's own -/
structure Pen where
  own : Bool
  v : V
  d : D
def Pen.kept (p : Pen) : Bool := p.own && isCont p.d
structure Pend (K : PySem.W.Frag) (w : World) (Z0 Zf : Addr → Prop) (ρ : Ro) (σ : L2.St) (H : Hp) (ps : List Pen) : Prop where
  z : ∀ x, Zf x ↔ Z0 x ∨ ∃ p ∈ ps, p.kept = true ∧ p.v = V.ref x
  it : ∀ p ∈ ps, if p.kept = true then ∃ a, p.v = V.ref a ∧ ¬ Z0 a ∧ Cont K w (PP Zf ρ σ) H a p.d else Den K w (PP Zf ρ σ) H p.v p.d
  ap : ps.Pairwise fun p q => p.kept = true → q.kept = true → p.v ≠ q.v
theorem Pend.go {K : PySem.W.Frag} {w : World} {Z0 Zf : Addr → Prop} {ρ ρ' : Ro} {σ : L2.St} {H H' : Hp} {ps : List Pen} (p : Pend K w Z0 Zf ρ σ H ps) (r : Rel K w Zf ρ σ H) (g : Go (Ow ρ σ) H (Ow ρ' σ) H') : Pend K w Z0 Zf ρ' σ H' ps := by
  have gp : Go (PP Zf ρ σ) H (PP Zf ρ' σ) H' := g.pp fun _ q => .inl q
  refine ⟨p.z, fun q hq => ?_, p.ap⟩
  have := p.it q hq
  by_cases hk : q.kept = true
  · rw [if_pos hk] at this ⊢
    obtain ⟨a, ea, nz, c⟩ := this
    refine ⟨a, ea, nz, c.go gp ?_⟩
    have zf : Zf a := (p.z a).mpr (.inr ⟨q, hq, hk, ea⟩)
    cases e : H a with
    | none => exact absurd e c.there
    | some u =>
      refine g.keep a u e fun q => ?_
      obtain ⟨i, d, h1, h2⟩ := q
      obtain ⟨b, eb, nb, _⟩ := r.ow i d h1
      rw [h2] at eb
      cases eb
      exact nb zf
  · rw [if_neg hk] at this ⊢
    exact this.go gp
def mkPens : List (Nat × Bool) → List V → List D → List Pen
  | t :: ts, v :: vs, d :: ds => ⟨t.2, v, d⟩ :: mkPens ts vs ds
  | _, _, _ => []
/-- an owned one is fresh -/
def freshOk : List (Nat × Bool) → IEs → Bool
  | [], .nil => true
  | t :: ts, .cons e es => (!t.2 || freshE e) && freshOk ts es
  | _, _ => false
theorem valOps_cons {e : IE} {es : IEs} (h : valOps (.cons e es) = true) : (∀ i, e ≠ .own i) ∧ (∀ i, e ≠ .io i) ∧ valOps es = true := by
  cases e <;> first | exact ⟨fun i q => (nomatch q), fun i q => (nomatch q), h⟩ | cases h
theorem par_ops {K : PySem.W.Frag} {w : World} {Z0 : Addr → Prop} {σ : L2.St} : ∀ (es : IEs) {ts : List (Nat × Bool)} {ρ ρ' : Ro} {H : Hp} {ds : List D} {Zf : Addr → Prop} {ps : List Pen} {Q : List V → Hp → Prop}, valOps es = true → freshOk ts es = true → Rel K w Zf ρ σ H → Pend K w Z0 Zf ρ σ H ps → evOps C es ρ = some (ds, ρ') →
    (∀ vs H' Zf', vs.length = ts.length → Go (Ow ρ σ) H (Ow ρ' σ) H' → Rel K w Zf' ρ' σ H' → (∀ x, Zf' x → Zf x ∨ H x = none) → Pend K w Z0 Zf' ρ' σ H' (ps ++ mkPens ts vs ds) → Q vs H') → opsR K w C es σ H Q
  | .nil, ts, ρ, ρ', H, ds, Zf, ps, Q, _, hf, r, p, e, hQ => by
    cases (show some (([] : List D), ρ) = some (ds, ρ') from e)
    cases ts with
    | nil => exact hQ [] H Zf rfl Go.refl r (fun x q => .inl q) (by rw [show mkPens [] [] [] = ([] : List Pen) from rfl, List.append_nil]; exact p)
    | cons _ _ => cases hf
  | .cons e es, ts, ρ, ρ', H, ds, Zf, ps, Q, hv, hf, r, p, ev, hQ => by
    obtain ⟨h1, h2, hv⟩ := valOps_cons hv
    cases ts with
    | nil => cases hf
    | cons t ts =>
      have hf : ((!t.2 || freshE e) && freshOk ts es) = true := hf
      rw [Bool.and_eq_true] at hf
      rw [evOps_cons h1 h2] at ev
      obtain ⟨⟨d, ρ1⟩, e1, ev⟩ := Option.bind_eq_some_iff.mp ev
      obtain ⟨⟨ds1, ρ2⟩, e2, ev⟩ := Option.map_eq_some_iff.mp ev
      cases ev
      show oR K w C e σ H fun x H1 => opsR K w C es σ H1 fun xs H2 => Q (x :: xs) H2
      rw [oR_val h1 h2]
      refine ⟨Zf, ρ, d, ρ1, r, e1, fun v H1 g1 o1 => ?_⟩
      by_cases hk : (t.2 && isCont d) = true
      · have hk' := hk
        rw [Bool.and_eq_true] at hk'
        have hfr : freshE e = true := by
          have := hf.1
          rw [hk'.1] at this
          simpa using this
        unfold Out at o1
        rw [if_pos (by rw [hfr, hk'.2]; rfl)] at o1
        obtain ⟨a, rfl, n, r1, c⟩ := o1
        have p1 := p.go r g1
        have nzf : ¬ Zf a := fun q => r.z a q n
        have nz0 : ¬ Z0 a := fun q => nzf ((p.z a).mpr (.inl q))
        have gs : Go (PP Zf ρ1 σ) H1 (PP (Zp Zf a) ρ1 σ) H1 → True := fun _ => trivial
        have p2 : Pend K w Z0 (Zp Zf a) ρ1 σ H1 (ps ++ [⟨t.2, .ref a, d⟩]) := by
          refine ⟨fun x => ?_, fun q hq => ?_, ?_⟩
          · constructor
            · rintro (q | q)
              · rcases (p.z x).mp q with z | ⟨y, hy, z⟩
                · exact .inl z
                · exact .inr ⟨y, List.mem_append_left _ hy, z⟩
              · exact .inr ⟨_, List.mem_append_right _ (List.mem_singleton.mpr rfl), hk, by rw [q]⟩
            · rintro (q | ⟨y, hy, k1, k2⟩)
              · exact .inl ((p.z x).mpr (.inl q))
              · rcases List.mem_append.mp hy with hy | hy
                · exact .inl ((p.z x).mpr (.inr ⟨y, hy, k1, k2⟩))
                · cases List.mem_singleton.mp hy
                  cases k2
                  exact .inr rfl
          · rcases List.mem_append.mp hq with hq | hq
            · -- the earlier ones: the heap ahead of this operand has them all
              have old := p.it q hq
              have gz : Go (PP Zf ρ σ) H (PP (Zp Zf a) ρ1 σ) H1 := g1.pp fun x q => by
                rcases q with q | q
                · exact .inl q
                · exact .inr (by rw [q]; exact n)
              have new := p1.it q hq
              by_cases hq2 : q.kept = true
              · rw [if_pos hq2] at old new ⊢
                obtain ⟨b, eb, nb, cb⟩ := old
                obtain ⟨b', eb', nb', cb'⟩ := new
                rw [eb] at eb'
                cases eb'
                refine ⟨b, eb, nb, cb.go gz ?_⟩
                have zf : Zf b := (p.z b).mpr (.inr ⟨q, hq, hq2, eb⟩)
                cases e : H b with
                | none => exact absurd e cb.there
                | some u =>
                  refine g1.keep b u e fun q => ?_
                  obtain ⟨i, d', y1, y2⟩ := q
                  obtain ⟨b2, eb2, nb2, _⟩ := r.ow i d' y1
                  rw [y2] at eb2
                  cases eb2
                  exact nb2 zf
              · rw [if_neg hq2] at old ⊢
                exact old.go gz
            · cases List.mem_singleton.mp hq
              rw [if_pos (show (Pen.mk t.2 (.ref a) d).kept = true from hk)]
              exact ⟨a, rfl, nz0, c⟩
          · rw [List.pairwise_append]
            refine ⟨p.ap, List.pairwise_singleton _ _, fun x hx y hy kx _ => ?_⟩
            cases List.mem_singleton.mp hy
            have := p.it x hx
            rw [if_pos kx] at this
            obtain ⟨b, eb, _, cb⟩ := this
            rw [eb]
            intro q
            cases q
            exact cb.there n
        refine par_ops es hv hf.2 r1 p2 e2 fun vs H' Zf' hl g' r' hz' p' => hQ (.ref a :: vs) H' Zf' (congrArg (· + 1) hl) (g1.trans g') r' (fun x q => ?_) ?_
        · rcases hz' x q with (z | z) | z
          · exact .inl z
          · exact .inr (by rw [z]; exact n)
          · refine .inr ?_
            cases e : H x with
            | none => rfl
            | some u => exact absurd z (g1.dom x (by rw [e]; simp))
        · rw [show mkPens (t :: ts) (.ref a :: vs) (d :: ds1) = [⟨t.2, .ref a, d⟩] ++ mkPens ts vs ds1 from rfl, ← List.append_assoc]
          exact p'
      · obtain ⟨r1, dv⟩ := o1.den r
        have p1 := p.go r g1
        have p2 : Pend K w Z0 Zf ρ1 σ H1 (ps ++ [⟨t.2, v, d⟩]) := by
          refine ⟨fun x => ?_, fun q hq => ?_, ?_⟩
          · rw [p1.z x]
            constructor
            · rintro (q | ⟨y, hy, z⟩)
              · exact .inl q
              · exact .inr ⟨y, List.mem_append_left _ hy, z⟩
            · rintro (q | ⟨y, hy, k1, k2⟩)
              · exact .inl q
              · rcases List.mem_append.mp hy with hy | hy
                · exact .inr ⟨y, hy, k1, k2⟩
                · cases List.mem_singleton.mp hy
                  exact absurd k1 hk
          · rcases List.mem_append.mp hq with hq | hq
            · exact p1.it q hq
            · cases List.mem_singleton.mp hq
              rw [if_neg (show ¬ (Pen.mk t.2 v d).kept = true from hk)]
              exact dv
          · rw [List.pairwise_append]
            refine ⟨p1.ap, List.pairwise_singleton _ _, fun x hx y hy _ ky => ?_⟩
            cases List.mem_singleton.mp hy
            exact absurd ky hk
        refine par_ops es hv hf.2 r1 p2 e2 fun vs H' Zf' hl g' r' hz' p' => hQ (v :: vs) H' Zf' (congrArg (· + 1) hl) (g1.trans g') r' (fun x q => ?_) ?_
        · rcases hz' x q with z | z
          · exact .inl z
          · refine .inr ?_
            cases e : H x with
            | none => rfl
            | some u => exact absurd z (g1.dom x (by rw [e]; simp))
        · rw [show mkPens (t :: ts) (v :: vs) (d :: ds1) = [⟨t.2, v, d⟩] ++ mkPens ts vs ds1 from rfl, ← List.append_assoc]
          exact p'
def setAll : List (Nat × Bool) → List V → L2.St → L2.St
  | t :: ts, v :: vs, σ => setAll ts vs (σ.set t.1 (some v))
  | _, _, σ => σ
/-- all are stored -/
theorem puts_ok {K : PySem.W.Frag} {w : World} {Z0 : Addr → Prop} {H : Hp} : ∀ {ts : List (Nat × Bool)} {vs : List V} {ds : List D} {Zf : Addr → Prop} {ρ ρ' : Ro} {σ : L2.St}, vs.length = ts.length → Rel K w Zf ρ σ H → Pend K w Z0 Zf ρ σ H (mkPens ts vs ds) → parPut ts ds ρ = some ρ' →
    Rel K w Z0 ρ' (setAll ts vs σ) H ∧ (∀ a, Ow ρ' (setAll ts vs σ) a → Ow ρ σ a ∨ Zf a ∧ ¬ Z0 a)
  | [], [], ds, Zf, ρ, ρ', σ, _, r, p, e => by
    cases ds with
    | nil =>
      cases (show some ρ = some ρ' from e)
      exact ⟨r.less fun a q => (p.z a).mpr (.inl q), fun a q => .inl q⟩
    | cons _ _ => cases e
  | t :: ts, v :: vs, ds, Zf, ρ, ρ', σ, hl, r, p, e => by
    cases ds with
    | nil => cases e
    | cons d ds =>
      have e : parPut ts ds (ρ.set t.1 (mkSl t.2 d)) = some ρ' := e
      have p0 : Pend K w Z0 Zf ρ σ H (⟨t.2, v, d⟩ :: mkPens ts vs ds) := p
      have hi := p0.it _ List.mem_cons_self
      have ap := List.pairwise_cons.mp p0.ap
      by_cases hk : (t.2 && isCont d) = true
      · rw [if_pos (show (Pen.mk t.2 v d).kept = true from hk)] at hi
        obtain ⟨a, ea, na, c⟩ := hi
        have ea : v = V.ref a := ea
        subst ea
        have em : mkSl t.2 d = .ow d := by unfold mkSl; rw [hk]; rfl
        rw [em] at e
        have za : Zf a := (p0.z a).mpr (.inr ⟨_, List.mem_cons_self, hk, rfl⟩)
        have sub1 : ∀ x, Zp (fun x => Zf x ∧ x ≠ a) a x → Zf x := fun x q => by
          rcases q with q | q
          · exact q.1
          · rw [q]; exact za
        have ppsub : ∀ x, PP (Zp (fun x => Zf x ∧ x ≠ a) a) ρ σ x → PP Zf ρ σ x := fun x q => q.imp (sub1 x) id
        obtain ⟨r1, sub⟩ := (r.less sub1).asgOw (fun q => q.2 rfl) (i := t.1) (c.go (Go.sub ppsub) rfl)
        have gp : Go (PP Zf ρ σ) H (PP (fun x => Zf x ∧ x ≠ a) (ρ.set t.1 (Sl.ow d)) (σ.set t.1 (some (V.ref a)))) H := Go.sub fun x q => by
          rcases q with q | q
          · exact .inl q.1
          · rcases sub x q with z | z
            · exact .inr z
            · exact .inl (by rw [z]; exact za)
        have p1 : Pend K w Z0 (fun x => Zf x ∧ x ≠ a) (ρ.set t.1 (Sl.ow d)) (σ.set t.1 (some (V.ref a))) H (mkPens ts vs ds) := by
          refine ⟨fun x => ?_, fun q hq => ?_, ap.2⟩
          · constructor
            · rintro ⟨q, nx⟩
              rcases (p0.z x).mp q with z | ⟨y, hy, k1, k2⟩
              · exact .inl z
              · rcases List.mem_cons.mp hy with hy | hy
                · rw [hy] at k2
                  cases k2
                  exact absurd rfl nx
                · exact .inr ⟨y, hy, k1, k2⟩
            · rintro (q | ⟨y, hy, k1, k2⟩)
              · exact ⟨(p0.z x).mpr (.inl q), fun z => na (by rw [← z]; exact q)⟩
              · refine ⟨(p0.z x).mpr (.inr ⟨y, List.mem_cons_of_mem _ hy, k1, k2⟩), fun z => ?_⟩
                have := ap.1 y hy hk k1
                rw [k2, z] at this
                exact this rfl
          · have := p0.it q (List.mem_cons_of_mem _ hq)
            by_cases hq2 : q.kept = true
            · rw [if_pos hq2] at this ⊢
              obtain ⟨b, eb, nb, cb⟩ := this
              exact ⟨b, eb, nb, cb.go gp rfl⟩
            · rw [if_neg hq2] at this ⊢
              exact this.go gp
        obtain ⟨q1, q2⟩ := puts_ok (Nat.succ.inj hl) r1 p1 e
        refine ⟨q1, fun x q => ?_⟩
        rcases q2 x q with z | ⟨z, z'⟩
        · rcases sub x z with y | y
          · exact .inl y
          · exact .inr (by rw [y]; exact ⟨za, na⟩)
        · exact .inr ⟨z.1, z'⟩
      · rw [if_neg (show ¬ (Pen.mk t.2 v d).kept = true from hk)] at hi
        have em : mkSl t.2 d = .sh d := by unfold mkSl; rw [if_neg hk]
        rw [em] at e
        have r1 := r.asg (i := t.1) hi
        have gp : Go (PP Zf ρ σ) H (PP Zf (ρ.set t.1 (Sl.sh d)) (σ.set t.1 (some v))) H := Go.sub fun a q => q.imp id ow_asg
        have p1 : Pend K w Z0 Zf (ρ.set t.1 (Sl.sh d)) (σ.set t.1 (some v)) H (mkPens ts vs ds) := by
          refine ⟨fun x => ?_, fun q hq => ?_, ap.2⟩
          · rw [p0.z x]
            constructor
            · rintro (q | ⟨y, hy, k1, k2⟩)
              · exact .inl q
              · rcases List.mem_cons.mp hy with hy | hy
                · rw [hy] at k1
                  exact absurd k1 hk
                · exact .inr ⟨y, hy, k1, k2⟩
            · rintro (q | ⟨y, hy, k1, k2⟩)
              · exact .inl q
              · exact .inr ⟨y, List.mem_cons_of_mem _ hy, k1, k2⟩
          · have := p0.it q (List.mem_cons_of_mem _ hq)
            by_cases hq2 : q.kept = true
            · rw [if_pos hq2] at this ⊢
              obtain ⟨b, eb, nb, cb⟩ := this
              exact ⟨b, eb, nb, cb.go gp rfl⟩
            · rw [if_neg hq2] at this ⊢
              exact this.go gp
        obtain ⟨q1, q2⟩ := puts_ok (Nat.succ.inj hl) r1 p1 e
        exact ⟨q1, fun x q => (q2 x q).imp ow_asg id⟩
  | [], _ :: _, _, _, _, _, _, hl, _, _, _ => by cases hl
  | _ :: _, [], _, _, _, _, _, hl, _, _, _ => by cases hl
end
end DV
end

section
namespace DV
open PySem PySem.Spec PyProof.Rows L2
theorem swapped_none {ts vs : List Expr} {kt k2 : Nat} {pt pt2 : Pos} {env : Env} (h : (!(ts.length == 2 || ts.length == 3) || vs.all (foldedForSure 8)) = true) : swappedStores [.Tuple ts kt pt] (.Tuple vs k2 pt2) env = pure none := by
  unfold swappedStores
  simp only [pure_bind]
  rw [Bool.or_eq_true] at h
  rcases h with h | h
  · simp [h]
  · simp only [h]
    repeat' split
    all_goals first | rfl | simp_all
theorem filterMap_lt {α β : Type} {f : α → Option β} : ∀ {l : List α} {x : α}, x ∈ l → f x = none → (l.filterMap f).length < l.length
  | y :: l, x, hx, e => by
    rcases List.mem_cons.mp hx with rfl | hx
    · rw [List.filterMap_cons, e]
      exact Nat.lt_succ_of_le (List.length_filterMap_le _ _)
    · have := filterMap_lt hx e
      rw [List.filterMap_cons]
      cases f y with
      | none => exact Nat.lt_succ_of_lt this
      | some z => exact Nat.succ_lt_succ this
theorem swapped_cell {ts vs : List Expr} {kt k2 : Nat} {pt pt2 : Pos} {env : Env} {n : Str} {p : Pos} (hx : Expr.Name n p ∈ ts) (h : env.kindOf n ≠ some .local) : swappedStores [.Tuple ts kt pt] (.Tuple vs k2 pt2) env = pure none := by
  unfold swappedStores
  have e : (ts.filterMap fun
    | .Name id pos => if (env.kindOf id == some .local && pos.line == (ts.head?.map (·.pos.line)).getD 0) = true then some id else none
    | _ => none).length < ts.length := filterMap_lt hx (by
      show (if (env.kindOf n == some .local && p.line == (ts.head?.map (·.pos.line)).getD 0) = true then some n else none) = none
      rw [if_neg]
      intro q
      rw [Bool.and_eq_true] at q
      exact h (eq_of_beq q.1))
  have ne := fun q => Nat.lt_irrefl _ (Nat.lt_of_lt_of_eq e (Eq.symm q))
  simp only []
  split
  · rfl
  · split
    · rfl
    · rw [if_pos]
      rw [Bool.or_eq_true]
      left
      rw [bne_iff_ne]
      exact fun q => Nat.lt_irrefl _ (Nat.lt_of_lt_of_eq e q.symm)
theorem swapped2 {x y : Str} {px py : Pos} {a b : Expr} {kt k2 : Nat} {pt pt2 : Pos} {env : Env} (hk : env.scope.kind = .function) (hx : env.scope.names.lookup x = some .local) (hy : env.scope.names.lookup y = some .local) (hl : (py.line == px.line) = true) (hne : x ≠ y)
    (na : starB a = false) (nb : starB b = false) (hf : [a, b].all (foldedForSure 8) = false) (hc : [a, b].all (constantsAlone 8) = false) : swappedStores [.Tuple [.Name x px, .Name y py] kt pt] (.Tuple [a, b] k2 pt2) env = pure (some [x, y]) := by
  have k1 : env.kindOf x = some .local := hx
  have k2' : env.kindOf y = some .local := hy
  have hb : env.blockKind = .function := by unfold Env.blockKind; rw [hk]; rfl
  have sa : ∀ (l : List Expr), (∀ e ∈ l, starB e = false) → (l.any fun | .Starred .. => true | _ => false) = false := by
    intro l hl
    rw [List.any_eq_false]
    intro e he
    have := hl e he
    cases e <;> first | (cases this; done) | simp
  have s2 := sa [a, b] (by intro e he; rcases List.mem_cons.mp he with rfl | he; exact na; cases List.mem_singleton.mp he; exact nb)
  have ex : (y == x) = false := beq_eq_false_iff_ne.mpr (Ne.symm hne)
  unfold swappedStores
  simp only [hb]
  have e1 : ([a, b].any fun | .Starred .. => true | _ => false) = false := s2
  have hpp : ∀ (n : Str) (p : Pos), (Expr.Name n p).pos = p := fun _ _ => rfl
  have kk1 : (env.kindOf x == some NameKind.local) = true := by rw [k1]; rfl
  have kk2 : (env.kindOf y == some NameKind.local) = true := by rw [k2']; rfl
  have hll : (px.line == px.line) = true := by simp
  refine Eq.trans (if_neg (by simp)) (Eq.trans (if_neg fun q => Bool.false_ne_true (e1.symm.trans q)) ?_)
  simp only [List.filterMap_cons, List.filterMap_nil, List.head?_cons, Option.map_some, Option.getD_some, hpp, kk1, kk2, hl, hll, Bool.and_self, if_true, hf, hc]
  have ed : [x, y].eraseDups = [x, y] := by simp [List.eraseDups_cons, ex]
  rw [ed]
  simp
theorem swapped3 {x y z : Str} {px py pz : Pos} {a b c : Expr} {kt k2 : Nat} {pt pt2 : Pos} {env : Env} (hk : env.scope.kind = .function) (hx : env.scope.names.lookup x = some .local) (hy : env.scope.names.lookup y = some .local) (hz : env.scope.names.lookup z = some .local) (hl : (py.line == px.line) = true) (hl3 : (pz.line == px.line) = true) (hne : x ≠ y) (hne2 : x ≠ z) (hne3 : y ≠ z)
    (na : starB a = false) (nb : starB b = false) (nc : starB c = false) (hf : [a, b, c].all (foldedForSure 8) = false) (hc : [a, b, c].all (constantsAlone 8) = false) : swappedStores [.Tuple [.Name x px, .Name y py, .Name z pz] kt pt] (.Tuple [a, b, c] k2 pt2) env = pure (some [x, y, z]) := by
  have k1 : env.kindOf x = some .local := hx
  have k2' : env.kindOf y = some .local := hy
  have k3 : env.kindOf z = some .local := hz
  have hb : env.blockKind = .function := by unfold Env.blockKind; rw [hk]; rfl
  have sa : ∀ (l : List Expr), (∀ e ∈ l, starB e = false) → (l.any fun | .Starred .. => true | _ => false) = false := by
    intro l hl
    rw [List.any_eq_false]
    intro e he
    have := hl e he
    cases e <;> first | (cases this; done) | simp
  have e1 : ([a, b, c].any fun | .Starred .. => true | _ => false) = false := sa [a, b, c] (by intro e he; simp only [List.mem_cons, List.mem_nil_iff, or_false] at he; rcases he with rfl | rfl | rfl <;> assumption)
  have ex : (y == x) = false := beq_eq_false_iff_ne.mpr (Ne.symm hne)
  have ex2 : (z == x) = false := beq_eq_false_iff_ne.mpr (Ne.symm hne2)
  have ex3 : (z == y) = false := beq_eq_false_iff_ne.mpr (Ne.symm hne3)
  unfold swappedStores
  simp only [hb]
  have hpp : ∀ (n : Str) (p : Pos), (Expr.Name n p).pos = p := fun _ _ => rfl
  have kk1 : (env.kindOf x == some NameKind.local) = true := by rw [k1]; rfl
  have kk2 : (env.kindOf y == some NameKind.local) = true := by rw [k2']; rfl
  have kk3 : (env.kindOf z == some NameKind.local) = true := by rw [k3]; rfl
  have hll : (px.line == px.line) = true := by simp
  refine Eq.trans (if_neg (by simp)) (Eq.trans (if_neg fun q => Bool.false_ne_true (e1.symm.trans q)) ?_)
  simp only [List.filterMap_cons, List.filterMap_nil, List.head?_cons, Option.map_some, Option.getD_some, hpp, kk1, kk2, kk3, hl, hl3, hll, Bool.and_self, if_true, hf, hc]
  have ed : [x, y, z].eraseDups = [x, y, z] := by simp [List.eraseDups_cons, ex, ex2, ex3]
  rw [ed]
  simp
section
variable {X : Cx} {C : Call} {G : Ck} {sc : Scope} {raw : Option Scope}
def ckNms (G : Ck) (sc : Scope) (raw : Option Scope) : List (Nat × Bool) → List Expr → Bool
  | [], [] => true
  | t :: ts, x :: xs => !starB x && ckTg G sc raw (.nm t.1) x && notIoB G.io t.1 && ckNms G sc raw ts xs
  | _, _ => false
def gNs : List (Nat × Bool) → TGs
  | [] => gNil
  | t :: ts => gCons (gName t.1) (gNs ts)
theorem gNs_ok : ∀ {ts : List (Nat × Bool)} {vs : List V} {σ : L2.St} {H : Hp} {Q : L2.St → Hp → Prop}, vs.length = ts.length → Q (setAll ts vs σ) H → gNs ts vs σ H Q
  | [], [], σ, H, Q, _, q => ⟨rfl, q⟩
  | t :: ts, v :: vs, σ, H, Q, hl, q => ⟨v, vs, rfl, gNs_ok (Nat.succ.inj hl) q⟩
  | [], _ :: _, _, _, _, hl, _ => by cases hl
  | _ :: _, [], _, _, _, hl, _ => by cases hl
theorem ckNm_name {i : Nat} {x : Expr} (h : ckTg G sc raw (.nm i) x = true) : ∃ n p, x = .Name n p ∧ (G.N[i]? = some n) ∧ locB sc raw n = true := by
  cases x with
  | Name n p =>
    have h : (decide (G.N[i]? = some n) && locB sc raw n && notIoB G.io i) = true := h
    rw [Bool.and_eq_true, Bool.and_eq_true] at h
    exact ⟨n, p, rfl, of_decide_eq_true h.1.1, h.1.2⟩
  | _ => cases h
theorem ckNms_cons {t : Nat × Bool} {ts : List (Nat × Bool)} {x : Expr} {xs : List Expr} (h : ckNms G sc raw (t :: ts) (x :: xs) = true) : starB x = false ∧ ckTg G sc raw (.nm t.1) x = true ∧ notIoB G.io t.1 = true ∧ ckNms G sc raw ts xs = true := by
  have h : (!starB x && ckTg G sc raw (.nm t.1) x && notIoB G.io t.1 && ckNms G sc raw ts xs) = true := h
  rw [Bool.and_eq_true, Bool.and_eq_true, Bool.and_eq_true] at h
  exact ⟨by simpa using h.1.1.1, h.1.1.2, h.1.2, h.2⟩
theorem pgs_names (M : Wr G sc raw X) : ∀ {ts : List (Nat × Bool)} {xs : List Expr}, ckNms G sc raw ts xs = true → PGs X xs (gNs ts) ∧ (assignEach xs X.env).findIdx? (·.1) = none ∧ (assignEach xs X.env).length = ts.length
  | [], [], _ => ⟨pgs_nil, rfl, rfl⟩
  | t :: ts, x :: xs, h => by
    obtain ⟨h1, h2, _, h3⟩ := ckNms_cons h
    obtain ⟨n, p, rfl, e1, e2⟩ := ckNm_name h2
    obtain ⟨l1, l2⟩ := locB_iff M e2
    obtain ⟨q1, q2, q3⟩ := pgs_names M h3
    refine ⟨pgs_cons (pg_name M.nd (by rw [M.N]; exact e1) l1 l2) q1 rfl, ?_, congrArg (· + 1) q3⟩
    rw [asgEach_cons h1, List.findIdx?_cons]
    simp only [Bool.false_eq_true, if_false]
    rw [q2]
    rfl
  | [], _ :: _, h => by cases h
  | _ :: _, [], h => by cases h
theorem fx_setAll : ∀ {ts : List (Nat × Bool)} {xs : List Expr} {vs : List V} {σ : L2.St}, ckNms G sc raw ts xs = true → Fx G.io σ (setAll ts vs σ)
  | [], [], vs, σ, _ => Fx.refl
  | t :: ts, x :: xs, vs, σ, h => by
    obtain ⟨_, _, h2, h3⟩ := ckNms_cons h
    cases vs with
    | nil => exact Fx.refl
    | cons v vs => exact (fx_set (i := t.1) (x := some v) h2).trans (fx_setAll (vs := vs) h3)
  | [], _ :: _, _, _, h => by cases h
  | _ :: _, [], _, _, h => by cases h
/-- what all the forms below share -/
theorem par_key {ts : List (Nat × Bool)} {es : IEs} {xs : List Expr} (hv : valOps es = true) (hf : freshOk ts es = true) (hn : ckNms G sc raw ts xs = true) {D : Ends} {σ : L2.St} {H : Hp} (h : tS X.K X.w C G.io (.par ts es) D σ H) :
    opsR X.K X.w C es σ H fun vs H' => vs.length = ts.length ∧ ∀ H'', Same H' H'' → D.nx (setAll ts vs σ) H'' := by
  obtain ⟨Z, ρ, fl, r, ev, hE⟩ := h
  obtain ⟨⟨ds, ρ1⟩, e1, h⟩ := Option.bind_eq_some_iff.mp (show ((evOps C es ρ).bind fun p => (parPut ts p.1 p.2).map Fl.nx) = some fl from ev)
  obtain ⟨ρ2, e2, h⟩ := Option.map_eq_some_iff.mp h
  subst h
  refine par_ops (Z0 := Z) es hv hf r ⟨fun x => ⟨fun q => .inl q, fun q => q.elim id fun ⟨_, z, _⟩ => (List.not_mem_nil z).elim⟩, fun p hp => (List.not_mem_nil hp).elim, .nil⟩ e1 fun vs H' Zf hl g r' hz p => ⟨hl, fun H'' s => ?_⟩
  have g2 : Go (Ow ρ1 σ) H' (Ow ρ1 σ) H'' := Go.same s fun _ q => .inl q
  have r2 := r'.same s
  obtain ⟨q1, q2⟩ := puts_ok hl r2 (p.go r' g2) e2
  have g3 := g.trans g2
  refine hE _ _ ⟨g3.keep, fun a q => ?_, g3.dom⟩ q1 (fx_setAll hn)
  rcases q2 a q with z | ⟨z, nz⟩
  · exact g3.priv a z
  · exact (hz a z).elim (fun y => absurd y nz) .inr
theorem s_parT (M : Wr G sc raw X) {ts : List (Nat × Bool)} {es : IEs} {xs vs : List Expr} {kt k2 : Nat} {pt pt2 pos : Pos} (hv : valOps es = true) (hf : freshOk ts es = true) (hn : ckNms G sc raw ts xs = true) (hx : OpsP X C es vs) (ns : nostar vs = true) (hsz : ts.length ≤ sizeLine)
    (hw : swappedStores [.Tuple xs kt pt] (.Tuple vs k2 pt2) X.env = pure none) : PS X (.Assign [.Tuple xs kt pt] (.Tuple vs k2 pt2) pos) (tS X.K X.w C G.io (.par ts es)) := by
  obtain ⟨q1, q2, q3⟩ := pgs_names M hn
  refine (ps_asg (pe_tup (hx.pa ns)) (pg_tup M.calm q1 q3 q2) rfl hw rfl).weaken fun D σ H q => ?_
  have q := par_key hv hf hn q
  have mono : ∀ (es : IEs) {σ : L2.St} {H : Hp} {Q Q' : List V → Hp → Prop}, (∀ vs H', Q vs H' → Q' vs H') → opsR X.K X.w C es σ H Q → opsR X.K X.w C es σ H Q' := by
    intro es
    refine IEs.rec (motive_1 := fun _ => True) (motive_2 := fun es => ∀ {σ : L2.St} {H : Hp} {Q Q' : List V → Hp → Prop}, (∀ vs H', Q vs H' → Q' vs H') → opsR X.K X.w C es σ H Q → opsR X.K X.w C es σ H Q') (motive_3 := fun _ => True) ?_ ?_ ?_ ?_ ?_ ?_ ?_ ?_ ?_ ?_ ?_ ?_ ?_ ?_ ?_ ?_ ?_ ?_ ?_ ?_ ?_ ?_ ?_ ?_ ?_ ?_ ?_ es <;> intros <;> first
      | trivial
      | (rename_i h q; exact h _ _ q)
      | (rename_i ih h q; exact oR_mono (fun v H1 q => ih (fun vs H2 q => h _ _ q) q) q)
      | (rename_i ih _ _ _ _ h q; exact oR_mono (fun v H1 q => ih (fun vs H2 q => h _ _ q) q) q)
  refine mono es (fun ws H' ⟨hl, q⟩ => ⟨by rw [hl]; exact hsz, fun p n => ?_⟩) q
  exact ⟨p, ws, rfl, SqT.of upd_same, hl, gNs_ok hl (q _ (same_new n))⟩
theorem s_par2 (M : Wr G sc raw X) {t1 t2 : Nat × Bool} {es : IEs} {x1 x2 a b : Expr} {kt k2 : Nat} {pt pt2 pos : Pos} (hv : valOps es = true) (hf : freshOk [t1, t2] es = true) (hn : ckNms G sc raw [t1, t2] [x1, x2] = true) (hx : OpsP X C es [a, b]) (ns : nostar [a, b] = true) (hij : t1.1 ≠ t2.1)
    (hk : sc.kind = .function) (hw : ∀ n p m q, x1 = .Name n p → x2 = .Name m q → sc.names.lookup n = some .local ∧ sc.names.lookup m = some .local ∧ (q.line == p.line) = true) (h1 : [a, b].all (foldedForSure 8) = false) (h2 : [a, b].all (constantsAlone 8) = false) :
    PS X (.Assign [.Tuple [x1, x2] kt pt] (.Tuple [a, b] k2 pt2) pos) (tS X.K X.w C G.io (.par [t1, t2] es)) := by
  obtain ⟨c1, c2, _, c3⟩ := ckNms_cons hn
  obtain ⟨d1, d2, _, _⟩ := ckNms_cons c3
  obtain ⟨n, p, rfl, e1, e2⟩ := ckNm_name c2
  obtain ⟨m, q, rfl, f1, f2⟩ := ckNm_name d2
  obtain ⟨w1, w2, w3⟩ := hw n p m q rfl rfl
  rw [← M.sc] at w1 w2 hk
  rw [← M.N] at e1 f1
  have hne : n ≠ m := fun e => by
    subst e
    exact hij ((List.getElem?_inj (List.getElem?_eq_some_iff.mp e1).1 M.nd).mp (e1.trans f1.symm))
  obtain ⟨na, nb⟩ := nostar_cons ns
  obtain ⟨nb, _⟩ := nostar_cons nb
  refine (ps_par M.calm M.nd e1 f1 hij w1 w2 (hx.pa ns) (swapped2 hk w1 w2 w3 hne na nb h1 h2) rfl).weaken fun D σ H q => ?_
  obtain ⟨a', b', rfl, _, _⟩ := hx.two
  refine oR_mono (fun v H1 q => oR_mono (fun u H2 q => ?_) q) (show oR X.K X.w C a' σ H _ from par_key hv hf hn q)
  obtain ⟨_, q⟩ := q
  exact ⟨v, u, rfl, q H2 (Same.refl _)⟩
theorem s_par3 (M : Wr G sc raw X) {t1 t2 t3 : Nat × Bool} {es : IEs} {x1 x2 x3 a b c : Expr} {kt k2 : Nat} {pt pt2 pos : Pos} (hv : valOps es = true) (hf : freshOk [t1, t2, t3] es = true) (hn : ckNms G sc raw [t1, t2, t3] [x1, x2, x3] = true) (hx : OpsP X C es [a, b, c]) (ns : nostar [a, b, c] = true) (hij : t1.1 ≠ t2.1) (hik : t1.1 ≠ t3.1) (hjk : t2.1 ≠ t3.1)
    (hk : sc.kind = .function) (hw : ∀ n p m q l s, x1 = .Name n p → x2 = .Name m q → x3 = .Name l s → sc.names.lookup n = some .local ∧ sc.names.lookup m = some .local ∧ sc.names.lookup l = some .local ∧ (q.line == p.line) = true ∧ (s.line == p.line) = true) (h1 : [a, b, c].all (foldedForSure 8) = false) (h2 : [a, b, c].all (constantsAlone 8) = false) :
    PS X (.Assign [.Tuple [x1, x2, x3] kt pt] (.Tuple [a, b, c] k2 pt2) pos) (tS X.K X.w C G.io (.par [t1, t2, t3] es)) := by
  obtain ⟨c1, c2, _, c3⟩ := ckNms_cons hn
  obtain ⟨d1, d2, _, d3⟩ := ckNms_cons c3
  obtain ⟨g1, g2, _, _⟩ := ckNms_cons d3
  obtain ⟨n, p, rfl, e1, e2⟩ := ckNm_name c2
  obtain ⟨m, q, rfl, f1, f2⟩ := ckNm_name d2
  obtain ⟨l, s, rfl, i1, i2⟩ := ckNm_name g2
  obtain ⟨w1, w2, w3, w4, w5⟩ := hw n p m q l s rfl rfl rfl
  rw [← M.sc] at w1 w2 w3 hk
  rw [← M.N] at e1 f1 i1
  have ne : ∀ {i j : Nat} {x y : Str}, X.N[i]? = some x → X.N[j]? = some y → i ≠ j → x ≠ y := fun {i j x y} h h' hij e => by
    subst e
    exact hij ((List.getElem?_inj (List.getElem?_eq_some_iff.mp h).1 M.nd).mp (h.trans h'.symm))
  obtain ⟨na, nb⟩ := nostar_cons ns
  obtain ⟨nb, nc⟩ := nostar_cons nb
  obtain ⟨nc, _⟩ := nostar_cons nc
  refine (ps_par3 M.calm M.nd e1 f1 i1 hij hik hjk w1 w2 w3 (hx.pa ns) (swapped3 hk w1 w2 w3 w4 w5 (ne e1 f1 hij) (ne e1 i1 hik) (ne f1 i1 hjk) na nb nc h1 h2) rfl).weaken fun D σ H q => ?_
  obtain ⟨a', b', c', rfl, _, _, _⟩ := hx.three
  refine oR_mono (fun v H1 q => oR_mono (fun u H2 q => oR_mono (fun t H3 q => ?_) q) q) (show oR X.K X.w C a' σ H _ from par_key hv hf hn q)
  obtain ⟨_, q⟩ := q
  exact ⟨v, u, t, rfl, q H3 (Same.refl _)⟩
end
end DV
end

section
/-! the check of a text against its plain form -/
namespace DV
open PySem PySem.Spec PyProof.Rows L2

/-! ### views -/
def vNot : Expr → Option Expr
  | .UnaryOp .Not y _ => some y
  | _ => none
theorem vNot_eq {x y : Expr} (h : vNot x = some y) : ∃ p, x = .UnaryOp .Not y p := by
  unfold vNot at h
  split at h
  · cases h; exact ⟨_, rfl⟩
  · cases h
def vBool (o : BoolOp) : Expr → Option (Expr × Expr)
  | .BoolOp o' (x :: y :: r) p => if o = o' then some (x, .BoolOp o' (y :: r) p) else none
  | _ => none
theorem vBool_eq {o : BoolOp} {x a b : Expr} (h : vBool o x = some (a, b)) : ∃ y r p, x = .BoolOp o (a :: y :: r) p ∧ b = .BoolOp o (y :: r) p := by
  unfold vBool at h
  split at h
  · split at h
    · rename_i e; subst e; cases h; exact ⟨_, _, _, rfl, rfl⟩
    · cases h
  · cases h
def vIf : Expr → Option (Expr × Expr × Expr)
  | .IfExp t a b _ => some (t, a, b)
  | _ => none
theorem vIf_eq {x t a b : Expr} (h : vIf x = some (t, a, b)) : ∃ p, x = .IfExp t a b p := by
  unfold vIf at h
  split at h
  · cases h; exact ⟨_, rfl⟩
  · cases h
def vChain : Expr → Option (CmpOp × CmpOp × Expr × Expr × Expr)
  | .Compare x [o1, o2] [y, z] _ => some (o1, o2, x, y, z)
  | _ => none
theorem vChain_eq {x a b c : Expr} {o1 o2 : CmpOp} (h : vChain x = some (o1, o2, a, b, c)) : ∃ p, x = .Compare a [o1, o2] [b, c] p := by
  unfold vChain at h
  split at h
  · cases h; exact ⟨_, rfl⟩
  · cases h
def vCall : Expr → Option (Str × List Expr)
  | .Call (.Name f _) args [] _ => some (f, args)
  | _ => none
theorem vCall_eq {x : Expr} {f : Str} {args : List Expr} (h : vCall x = some (f, args)) : ∃ p q, x = .Call (.Name f p) args [] q := by
  unfold vCall at h
  split at h
  · cases h; exact ⟨_, _, rfl⟩
  · cases h
/-- a method of a name, on one line -/
def vMeth : Expr → Option (Str × Str × List Expr)
  | .Call (.Attribute (.Name x _) m ap) args [] cp => if (ap.endLine == cp.line) = true then some (x, m, args) else none
  | _ => none
theorem vMeth_eq {e : Expr} {x m : Str} {args : List Expr} (h : vMeth e = some (x, m, args)) : ∃ p ap cp, e = .Call (.Attribute (.Name x p) m ap) args [] cp ∧ (ap.endLine == cp.line) = true := by
  unfold vMeth at h
  split at h
  · split at h
    · rename_i e; cases h; exact ⟨_, _, _, rfl, e⟩
    · cases h
  · cases h
def vName : Expr → Option Str
  | .Name x _ => some x
  | _ => none
theorem vName_eq {e : Expr} {x : Str} (h : vName e = some x) : ∃ p, e = .Name x p := by
  unfold vName at h
  split at h
  · cases h; exact ⟨_, rfl⟩
  · cases h
def vLc : Expr → Option (Expr × Expr × Expr × List Expr × Scope)
  | .ListComp elt [⟨tg, iter, ifs, 0⟩] scope _ => some (elt, tg, iter, ifs, scope)
  | _ => none
theorem vLc_eq {e elt tg iter : Expr} {ifs : List Expr} {scope : Scope} (h : vLc e = some (elt, tg, iter, ifs, scope)) : ∃ p, e = .ListComp elt [⟨tg, iter, ifs, 0⟩] scope p := by
  unfold vLc at h
  split at h
  · cases h; exact ⟨_, rfl⟩
  · cases h
def vLc2 : Expr → Option ((Expr × Expr × Expr × List Expr × Scope) × Expr × Expr × List Expr)
  | .ListComp elt [⟨tg, iter, ifs, 0⟩, ⟨tg1, iter1, ifs1, 0⟩] scope _ => some ((elt, tg, iter, ifs, scope), tg1, iter1, ifs1)
  | _ => none
theorem vLc2_eq {e elt tg iter tg1 iter1 : Expr} {ifs ifs1 : List Expr} {scope : Scope} (h : vLc2 e = some ((elt, tg, iter, ifs, scope), tg1, iter1, ifs1)) : ∃ p, e = .ListComp elt [⟨tg, iter, ifs, 0⟩, ⟨tg1, iter1, ifs1, 0⟩] scope p := by
  unfold vLc2 at h
  split at h
  · cases h; exact ⟨_, rfl⟩
  · cases h
def vTup : Expr → Option (List Expr)
  | .Tuple xs _ _ => some xs
  | _ => none
theorem vTup_eq {e : Expr} {xs : List Expr} (h : vTup e = some xs) : ∃ n p, e = .Tuple xs n p := by
  unfold vTup at h
  split at h
  · cases h; exact ⟨_, _, rfl⟩
  · cases h
def vLst : Expr → Option (List Expr)
  | .List xs _ => some xs
  | _ => none
theorem vLst_eq {e : Expr} {xs : List Expr} (h : vLst e = some xs) : ∃ p, e = .List xs p := by
  unfold vLst at h
  split at h
  · cases h; exact ⟨_, rfl⟩
  · cases h
def vDic : Expr → Option (List (Option Expr) × List Expr)
  | .Dict ks vs _ => some (ks, vs)
  | _ => none
theorem vDic_eq {e : Expr} {ks : List (Option Expr)} {vs : List Expr} (h : vDic e = some (ks, vs)) : ∃ p, e = .Dict ks vs p := by
  unfold vDic at h
  split at h
  · cases h; exact ⟨_, rfl⟩
  · cases h
def vCon : Expr → Option Const
  | .Constant k _ _ => some k
  | _ => none
theorem vCon_eq {e : Expr} {k : Const} (h : vCon e = some k) : ∃ n p, e = .Constant k n p := by
  unfold vCon at h
  split at h
  · cases h; exact ⟨_, _, rfl⟩
  · cases h
/-- a slot's own, under a test -/
def ownT : IE → Option Nat
  | .prim .truth (.cons (.own i) .nil) => some i
  | _ => none
theorem ownT_eq {e : IE} {i : Nat} (h : ownT e = some i) : e = .prim .truth (.cons (.own i) .nil) := by
  unfold ownT at h
  split at h
  · cases h; rfl
  · cases h
def ckNm1 (G : Ck) (sc : Scope) (i : Nat) (x : Expr) : Bool := match vName x with
  | some n => ckN G sc i n
  | none => false
def ownP (G : Ck) (vs : List Nat) : List (Str × Nat) := vs.map fun i => (G.N.getD i "", i)
theorem ownP_map (G : Ck) (vs : List Nat) : (ownP G vs).map (·.2) = vs := by
  unfold ownP
  rw [List.map_map]
  exact List.map_id vs
def muOk (G : Ck) (sc : Scope) (mu : Mu) (i : Nat) (es : IEs) (v : Str × Str × List Expr) : Bool := ckN G sc i v.1 && nostar v.2.2 && decide (v.2.2.length < 25) && (match mu with
  | .append => decide (v.2.1 = "append") && valOps es
  | .extend => decide (v.2.1 = "extend")
  | .pop => decide (v.2.1 = "pop") && v.2.2.isEmpty && (match es with | .nil => true | _ => false)
  | _ => false)
def subN (xs ys : List Nat) : Bool := xs.all fun i => ys.contains i
theorem subN_mem {xs ys : List Nat} (h : subN xs ys = true) : ∀ i ∈ xs, i ∈ ys := fun i hi => by
  have := List.all_eq_true.mp h i hi
  simpa using this

mutual
def ckE (G : Ck) (sc : Scope) : IE → Expr → Bool
  | .con c, x => match vCon x with
    | some k => ckC c k
    | none => false
  | .glb c, x => match vName x with
    | some n => glB sc n && ckGlb G n c
    | none => false
  | .var i, x => ckNm1 G sc i x
  | .esc i, x => ckNm1 G sc i x
  | .own _, _ => false
  | .io _, _ => false
  | .tup es, x => match vTup x with
    | some xs => valOps es && nostar xs && decide (xs.length ≤ 1000) && ckOps G sc es xs
    | none => false
  | .lst es, x => match vLst x with
    | some xs => valOps es && nostar xs && decide (xs.length ≤ 1000) && ckOps G sc es xs
    | none => false
  | .dic es, x => match vDic x with
    | some (ks, vs) => match dicArgs ks vs with
      | some xs => valOps es && evenB es && decide (ks.length ≤ 15) && ckOps G sc es xs
      | none => false
    | none => false
  | .prim p es, x => match primArgs sc p x with
    | some xs => noIo es && ckOps G sc es xs
    | none => false
  | .not e, x => match vNot x with
    | some y => match ownT e with
      | some i => ckNm1 G sc i y
      | none => ckE G sc e y
    | none => false
  | .and a b, x => match vBool .And x with
    | some (y, z) => ckE G sc a y && ckE G sc b (bool1 z)
    | none => false
  | .or a b, x => match vBool .Or x with
    | some (y, z) => ckE G sc a y && ckE G sc b (bool1 z)
    | none => false
  | .ife c a b, x => match vIf x with
    | some (t, y, z) => ckE G sc c t && ckE G sc a y && ckE G sc b z
    | none => false
  | .chain o1 o2 a b c, x => match vChain x with
    | some (p1, p2, y, z, u) => decide (o1 = p1) && decide (o2 = p2) && !isSetD u && ckE G sc a y && ckE G sc b z && ckE G sc c u
    | none => false
  | .call f es, x => match vCall x with
    | some (n, args) => match G.fns[f]? with
      | some (m, io) => decide (n = m) && glB sc n && decide (ioF es = io) && decide (ioS es).Nodup && nostar args && ckOps G sc es args
      | none => false
    | none => false
  | .mut mu i es, x => match vMeth x with
    | some v => muOk G sc mu i es v && ckOps G sc es v.2.2
    | none => false
  | .comp vs t it cs elt, x => match vLc x with
    | some (ex, tg, iter, ifs, scope) => blkC G.N sc scope (ownP G vs) && subN (tns t) vs && !isSetD iter && ckTg G (relS scope sc) (some scope) t tg && ckI G sc it tg iter && ckCs G (relS scope sc) cs ifs && ckE G (relS scope sc) elt ex
    | none => false
  | .comp2 vs t it cs vs1 t1 it1 cs1 elt, x => match vLc2 x with
    | some ((ex, tg, iter, ifs, scope), tg1, iter1, ifs1) => blkC G.N sc scope (ownP G vs) && subN (tns t) vs && subN (tns t1) vs1 && subN vs1 vs && !isSetD iter && !isSetD iter1 && ckTg G (relS scope sc) (some scope) t tg && ckTg G (relS scope sc) (some scope) t1 tg1 &&
        ckI G sc it tg iter && ckCs G (relS scope sc) cs ifs && ckI G (relS scope sc) it1 tg1 iter1 && ckCs G (relS scope sc) cs1 ifs1 && ckE G (relS scope sc) elt ex
    | none => false
def ckOps (G : Ck) (sc : Scope) : IEs → List Expr → Bool
  | .nil, [] => true
  | .cons (.own i) es, x :: xs => ckNm1 G sc i x && ckOps G sc es xs
  | .cons (.io i) es, x :: xs => ckNm1 G sc i x && ckOps G sc es xs
  | .cons e es, x :: xs => ckE G sc e x && ckOps G sc es xs
  | _, _ => false
def ckI (G : Ck) (sc : Scope) : It → Expr → Expr → Bool
  | .val e, _, x => ckE G sc e x
  | .rng es, _, x => match vCall x with
    | some (n, args) => decide (n = "range") && glB sc n && nostar args && decide (1 ≤ args.length) && decide (args.length ≤ 3) && ckOps G sc es args
    | none => false
  | .zip a b, tg, x => (match tg with | .Tuple .. => true | _ => false) && match vCall x with
    | some (n, [y, z]) => decide (n = "zip") && glB sc n && !starB y && !starB z && ckE G sc a y && ckE G sc b z
    | _ => false
  | .enum e, tg, x => (match tg with | .Tuple .. => true | _ => false) && match vCall x with
    | some (n, [y]) => decide (n = "enumerate") && glB sc n && !starB y && ckE G sc e y
    | _ => false
  | .items _, _, _ => false
  | .vals _, _, _ => false
def ckCs (G : Ck) (sc : Scope) : IEs → List Expr → Bool
  | .nil, [] => true
  | .cons c .nil, [x] => match ownT c with
    | some i => ckNm1 G sc i x
    | none => ckE G sc c x
  | _, _ => false
end

/-! ### it is right -/
abbrev AmbC (G : Ck) (C : Call) (sc : Scope) (raw : Option Scope) (X : Cx) : Prop := Amb G (fun f => spOf X.K X.w (((G.fns[f]?).map (·.2)).getD []) f C) sc raw X
section
variable {G : Ck} {C : Call}
theorem AmbC.wr {sc : Scope} {raw : Option Scope} {X : Cx} (M : AmbC G C sc raw X) : Wr G sc raw X := ⟨M.calm, M.N, M.nd, M.sc, fun x h => M.cel x (by cases raw <;> exact h)⟩
theorem AmbC.blk {sc : Scope} {raw : Option Scope} {X : Cx} (M : AmbC G C sc raw X) (scope : Scope) (s : Shared) (H : Hp) (L : Addr) (cl : List (Str × Addr)) (fp : List Addr) : AmbC G C (relS scope sc) (some scope) (X.blk s H scope (compEnvC scope cl L X.env) fp) :=
  ⟨M.calm, M.N, M.nd, M.un, by rw [← M.sc]; rfl, M.blt, M.fns, M.glb, fun x h => by
    show (scope.names.lookup x == some .cell) = true
    have h : (match scope.names.lookup x with | some .cell => true | _ => false) = true := h
    split at h
    · rename_i e; rw [e]; rfl
    · cases h⟩
theorem nm1_ok {sc : Scope} {raw : Option Scope} {X : Cx} (M : AmbC G C sc raw X) {i : Nat} {x : Expr} (h : ckNm1 G sc i x = true) : Good X C (.var i) x ∧ Good X C (.esc i) x ∧ PE X x (tVar i) ∧ ∃ n p, x = .Name n p := by
  unfold ckNm1 at h
  split at h
  · rename_i n e
    obtain ⟨p, rfl⟩ := vName_eq e
    obtain ⟨a, b, c⟩ := g_var M.N M.sc h (C := C) (pos := p)
    exact ⟨a, b, c, n, p, rfl⟩
  · cases h
theorem own_ok {sc : Scope} {raw : Option Scope} {X : Cx} (M : AmbC G C sc raw X) {i : Nat} {x : Expr} (h : ckNm1 G sc i x = true) : PE X x (oR X.K X.w C (.own i)) ∧ PE X x (oR X.K X.w C (.io i)) := ⟨(nm1_ok M h).2.2.1, (nm1_ok M h).2.2.1⟩
theorem range_ne {n : Nat} (h1 : (decide (1 ≤ n)) = true) (h2 : decide (n ≤ 3) = true) : n = 1 ∨ n = 2 ∨ n = 3 := by
  have := of_decide_eq_true h1
  have := of_decide_eq_true h2
  omega
theorem size1000 {n : Nat} (h : decide (n ≤ 1000) = true) : n ≤ sizeLine := by
  have := of_decide_eq_true h
  rw [sizeLine_eq]
  omega
mutual
theorem ckE_ok : ∀ (e : IE) {x : Expr} {sc : Scope} {raw : Option Scope} {X : Cx}, AmbC G C sc raw X → ckE G sc e x = true → Good X C e x
  | .con c, x, sc, raw, X, M, h => by
    unfold ckE at h
    split at h
    · rename_i k e; obtain ⟨n, p, rfl⟩ := vCon_eq e; exact .plain (s_con h) rfl
    · cases h
  | .glb c, x, sc, raw, X, M, h => by
    unfold ckE at h
    split at h
    · rename_i k e
      obtain ⟨p, rfl⟩ := vName_eq e
      rw [Bool.and_eq_true] at h
      exact .plain (s_glb M h.1 h.2) rfl
    · cases h
  | .var i, x, sc, raw, X, M, h => (nm1_ok M h).1
  | .esc i, x, sc, raw, X, M, h => (nm1_ok M h).2.1
  | .own _, x, sc, raw, X, M, h => by cases h
  | .io _, x, sc, raw, X, M, h => by cases h
  | .tup es, x, sc, raw, X, M, h => by
    unfold ckE at h
    split at h
    · rename_i xs e
      obtain ⟨n, p, rfl⟩ := vTup_eq e
      rw [Bool.and_eq_true, Bool.and_eq_true, Bool.and_eq_true] at h
      exact .plain (s_tup h.1.1.1 (ckOps_ok es M h.2) h.1.1.2 (size1000 h.1.2)) rfl
    · cases h
  | .lst es, x, sc, raw, X, M, h => by
    unfold ckE at h
    split at h
    · rename_i xs e
      obtain ⟨p, rfl⟩ := vLst_eq e
      rw [Bool.and_eq_true, Bool.and_eq_true, Bool.and_eq_true] at h
      exact .plain (s_lst h.1.1.1 (ckOps_ok es M h.2) h.1.1.2 (size1000 h.1.2)) rfl
    · cases h
  | .dic es, x, sc, raw, X, M, h => by
    unfold ckE at h
    split at h
    · rename_i ks vs e
      obtain ⟨p, rfl⟩ := vDic_eq e
      split at h
      · rename_i xs e2
        rw [Bool.and_eq_true, Bool.and_eq_true, Bool.and_eq_true] at h
        have hx := ckOps_ok es M h.2
        cases ks with
        | nil =>
          cases vs with
          | nil =>
            cases (show some [] = some xs from e2)
            have h0 : es = .nil := by
              cases es with
              | nil => rfl
              | cons _ _ => exact hx.elim
            subst h0
            exact .plain s_dic0 rfl
          | cons _ _ => cases e2
        | cons k ks => exact .plain (s_dic e2 hx (fun q => nomatch q) (of_decide_eq_true h.1.2) h.1.1.1 h.1.1.2) rfl
      · cases h
    · cases h
  | .prim p es, x, sc, raw, X, M, h => by
    unfold ckE at h
    split at h
    · rename_i xs e
      rw [Bool.and_eq_true] at h
      exact prim_ok M e h.1 (ckOps_ok es M h.2)
    · cases h
  | .not e, x, sc, raw, X, M, h => by
    unfold ckE at h
    split at h
    · rename_i y e1
      obtain ⟨p, rfl⟩ := vNot_eq e1
      split at h
      · rename_i i e2
        rw [ownT_eq e2]
        obtain ⟨_, _, c, n, q, rfl⟩ := nm1_ok M h
        exact g_notOwn c
      · exact s_not (ckE_ok e M h)
    · cases h
  | .and a b, x, sc, raw, X, M, h => by
    unfold ckE at h
    split at h
    · rename_i y z e
      obtain ⟨u, r, p, rfl, rfl⟩ := vBool_eq e
      rw [Bool.and_eq_true] at h
      exact s_and (ckE_ok a M h.1) (ckE_ok b M h.2)
    · cases h
  | .or a b, x, sc, raw, X, M, h => by
    unfold ckE at h
    split at h
    · rename_i y z e
      obtain ⟨u, r, p, rfl, rfl⟩ := vBool_eq e
      rw [Bool.and_eq_true] at h
      exact s_or (ckE_ok a M h.1) (ckE_ok b M h.2)
    · cases h
  | .ife c a b, x, sc, raw, X, M, h => by
    unfold ckE at h
    split at h
    · rename_i t y z e
      obtain ⟨p, rfl⟩ := vIf_eq e
      rw [Bool.and_eq_true, Bool.and_eq_true] at h
      exact g_ife (ckE_ok c M h.1.1) (ckE_ok a M h.1.2) (ckE_ok b M h.2)
    · cases h
  | .chain o1 o2 a b c, x, sc, raw, X, M, h => by
    unfold ckE at h
    split at h
    · rename_i p1 p2 y z u e
      obtain ⟨p, rfl⟩ := vChain_eq e
      rw [Bool.and_eq_true, Bool.and_eq_true, Bool.and_eq_true, Bool.and_eq_true, Bool.and_eq_true] at h
      obtain ⟨⟨⟨⟨⟨h1, h2⟩, h3⟩, h4⟩, h5⟩, h6⟩ := h
      have e1 := of_decide_eq_true h1
      have e2 := of_decide_eq_true h2
      subst e1 e2
      exact g_chain M.un (ckE_ok a M h4) (ckE_ok b M h5) (ckE_ok c M h6) (by simpa using h3)
    · cases h
  | .call f es, x, sc, raw, X, M, h => by
    unfold ckE at h
    split at h
    · rename_i n args e
      obtain ⟨p, q, rfl⟩ := vCall_eq e
      split at h
      · rename_i m io e2
        rw [Bool.and_eq_true, Bool.and_eq_true, Bool.and_eq_true, Bool.and_eq_true, Bool.and_eq_true] at h
        obtain ⟨⟨⟨⟨⟨h1, h2⟩, h3⟩, h4⟩, h5⟩, h6⟩ := h
        have e1 := of_decide_eq_true h1
        subst e1
        obtain ⟨k, a, fd, ps, F, hr, hm, hk, hb⟩ := M.fns f _ io e2
        have F : FnOk X.prog X.w X.K X.mg X.base CX0 k a fd ps (spOf X.K X.w io f C) := by
          have ez : ((G.fns[f]?).map (·.2)).getD [] = io := by rw [e2]; rfl
          rw [← ez]
          exact F
        exact .plain (s_call F hr hm hk hb (glB_iff M.sc h2).1 (glB_iff M.sc h2).2 (ckOps_ok es M h6) h5 (of_decide_eq_true h3) (of_decide_eq_true h4)) rfl
      · cases h
    · cases h
  | .mut mu i es, x, sc, raw, X, M, h => by
    unfold ckE at h
    split at h
    · rename_i v e
      obtain ⟨x, m, args⟩ := v
      obtain ⟨p, ap, cp, rfl, hline⟩ := vMeth_eq e
      rw [Bool.and_eq_true] at h
      obtain ⟨h1, h2⟩ := h
      unfold muOk at h1
      rw [Bool.and_eq_true, Bool.and_eq_true, Bool.and_eq_true] at h1
      obtain ⟨⟨⟨h3, h4⟩, h5⟩, h6⟩ := h1
      obtain ⟨_, _, ho⟩ := g_var (C := C) (pos := p) M.N M.sc h3
      have hx := ckOps_ok es M h2
      have hl := of_decide_eq_true h5
      cases mu with
      | append =>
        rw [Bool.and_eq_true] at h6
        have em : m = "append" := of_decide_eq_true h6.1
        subst em
        exact .plain (s_append h6.2 ho hx h4 hl hline) rfl
      | extend =>
        have em : m = "extend" := of_decide_eq_true h6
        subst em
        exact .plain (s_extend ho hx h4 hl hline) rfl
      | pop =>
        rw [Bool.and_eq_true, Bool.and_eq_true] at h6
        have em : m = "pop" := of_decide_eq_true h6.1.1
        subst em
        have ea : args = [] := by
          have := h6.1.2
          cases args with
          | nil => rfl
          | cons _ _ => cases this
        subst ea
        cases es with
        | nil => exact .plain (s_pop ho hline) rfl
        | cons _ _ => cases h6.2
      | _ => cases h6
    · cases h
  | .comp vs t it cs elt, x, sc, raw, X, M, h => by
    unfold ckE at h
    split at h
    · rename_i ex tg iter ifs scope e
      obtain ⟨p, rfl⟩ := vLc_eq e
      rw [Bool.and_eq_true, Bool.and_eq_true, Bool.and_eq_true, Bool.and_eq_true, Bool.and_eq_true, Bool.and_eq_true] at h
      obtain ⟨⟨⟨⟨⟨⟨h1, h2⟩, h3⟩, h4⟩, h5⟩, h6⟩, h7⟩ := h
      have ok : BlkOk X.N X.env.scope scope (ownP G vs) := by rw [M.N, M.sc]; exact blkOk_by h1
      have q := pe_lc (wi := tI X.K X.w C it) (g := tG X.K X.w t) (tt := tCs X.K X.w C cs) (te := tE X.K X.w C elt) M.calm M.nd (ckI_ok it M h5) ok (fun s H L cl fp => tg_ok (M.blk scope s H L cl fp).wr h4) (fun s H L cl fp => ckCs_ok cs (M.blk scope s H L cl fp) h6) (fun s H L cl fp => (ckE_ok elt (M.blk scope s H L cl fp) h7).pe) (folded_of (by simpa using h3)) (pos := p)
      rw [ownP_map] at q
      exact .plain (q.weaken fun σ H Q z => lc_key (subN_mem h2) z) rfl
    · cases h
  | .comp2 vs t it cs vs1 t1 it1 cs1 elt, x, sc, raw, X, M, h => by
    unfold ckE at h
    split at h
    · rename_i ex tg iter ifs scope tg1 iter1 ifs1 e
      obtain ⟨p, rfl⟩ := vLc2_eq e
      simp only [Bool.and_eq_true] at h
      obtain ⟨⟨⟨⟨⟨⟨⟨⟨⟨⟨⟨⟨h1, h2⟩, h3⟩, h4⟩, h5⟩, h6⟩, h7⟩, h8⟩, h9⟩, h10⟩, h11⟩, h12⟩, h13⟩ := h
      have ok : BlkOk X.N X.env.scope scope (ownP G vs) := by rw [M.N, M.sc]; exact blkOk_by h1
      have q := pe_lc2 (vs1 := vs1) (wi := tI X.K X.w C it) (g := tG X.K X.w t) (tt := tCs X.K X.w C cs) (wi1 := tI X.K X.w C it1) (g1 := tG X.K X.w t1) (tt1 := tCs X.K X.w C cs1) (te := tE X.K X.w C elt) M.calm M.nd (ckI_ok it M h9) ok (by rw [ownP_map]; exact subN_mem h4) (fun s H L cl fp => tg_ok (M.blk scope s H L cl fp).wr h7) (fun s H L cl fp => ckCs_ok cs (M.blk scope s H L cl fp) h10) (fun s H L cl fp => ckI_ok it1 (M.blk scope s H L cl fp) h11)
        (fun s H L cl fp => tg_ok (M.blk scope s H L cl fp).wr h8) (fun s H L cl fp => ckCs_ok cs1 (M.blk scope s H L cl fp) h12) (fun s H L cl fp => (ckE_ok elt (M.blk scope s H L cl fp) h13).pe) (folded_of (by simpa using h5)) (fun env => folded_of (by simpa using h6)) (pos := p)
      rw [ownP_map] at q
      exact .plain (q.weaken fun σ H Q z => lc2_key (subN_mem h2) (subN_mem h3) (subN_mem h4) z) rfl
    · cases h
theorem ckOps_ok : ∀ (es : IEs) {xs : List Expr} {sc : Scope} {raw : Option Scope} {X : Cx}, AmbC G C sc raw X → ckOps G sc es xs = true → OpsP X C es xs
  | .nil, [], sc, raw, X, M, h => True.intro
  | .nil, _ :: _, sc, raw, X, M, h => by cases h
  | .cons _ _, [], sc, raw, X, M, h => by
    rename_i e es
    cases e <;> cases h
  | .cons e es, x :: xs, sc, raw, X, M, h => by
    rcases ie_cases e with ⟨i, rfl⟩ | ⟨i, rfl⟩ | ⟨n1, n2⟩
    · have h : (ckNm1 G sc i x && ckOps G sc es xs) = true := h
      rw [Bool.and_eq_true] at h
      exact ⟨(own_ok M h.1).1, ckOps_ok es M h.2⟩
    · have h : (ckNm1 G sc i x && ckOps G sc es xs) = true := h
      rw [Bool.and_eq_true] at h
      exact ⟨(own_ok M h.1).2, ckOps_ok es M h.2⟩
    · have h : (ckE G sc e x && ckOps G sc es xs) = true := by
        cases e <;> first | exact h | exact absurd rfl (n1 _) | exact absurd rfl (n2 _)
      rw [Bool.and_eq_true] at h
      refine ⟨?_, ckOps_ok es M h.2⟩
      rw [oR_val n1 n2]
      exact (ckE_ok e M h.1).pe
theorem ckI_ok : ∀ (it : It) {tg x : Expr} {sc : Scope} {raw : Option Scope} {X : Cx}, AmbC G C sc raw X → ckI G sc it tg x = true → PI X tg x (tI X.K X.w C it)
  | .val e, tg, x, sc, raw, X, M, h => i_val (ckE_ok e M h).pe
  | .rng es, tg, x, sc, raw, X, M, h => by
    unfold ckI at h
    split at h
    · rename_i n args e
      obtain ⟨p, q, rfl⟩ := vCall_eq e
      simp only [Bool.and_eq_true] at h
      obtain ⟨⟨⟨⟨⟨h1, h2⟩, h3⟩, h4⟩, h5⟩, h6⟩ := h
      have en := of_decide_eq_true h1
      subst en
      have hg := (glB_iff M.sc h2).1
      have hm := M.blt "range" (by decide)
      have hx := ckOps_ok es M h6
      rcases range_ne h4 h5 with hl | hl | hl
      · obtain ⟨a, rfl⟩ := len1 hl
        exact i_rng1 hg hm hx (nostar_cons h3).1
      · obtain ⟨a, b, rfl⟩ := len2 hl
        exact i_rng2 hg hm hx (nostar_cons h3).1 (nostar_cons (nostar_cons h3).2).1
      · obtain ⟨a, b, c, rfl⟩ := len3 hl
        exact i_rng3 hg hm hx h3
    · cases h
  | .zip a b, tg, x, sc, raw, X, M, h => by
    unfold ckI at h
    rw [Bool.and_eq_true] at h
    obtain ⟨h0, h⟩ := h
    split at h
    · rename_i n y z e
      obtain ⟨p, q, rfl⟩ := vCall_eq e
      simp only [Bool.and_eq_true] at h
      obtain ⟨⟨⟨⟨⟨h1, h2⟩, h3⟩, h4⟩, h5⟩, h6⟩ := h
      have en := of_decide_eq_true h1
      subst en
      cases tg with
      | Tuple elts kk tp => exact i_zip (glB_iff M.sc h2).1 (M.blt "zip" (by decide)) (ckE_ok a M h5).pe (ckE_ok b M h6).pe (by simpa using h3) (by simpa using h4)
      | _ => cases h0
    · cases h
  | .enum e, tg, x, sc, raw, X, M, h => by
    unfold ckI at h
    rw [Bool.and_eq_true] at h
    obtain ⟨h0, h⟩ := h
    split at h
    · rename_i n y e'
      obtain ⟨p, q, rfl⟩ := vCall_eq e'
      simp only [Bool.and_eq_true] at h
      obtain ⟨⟨⟨h1, h2⟩, h3⟩, h4⟩ := h
      have en := of_decide_eq_true h1
      subst en
      cases tg with
      | Tuple elts kk tp => exact i_enum (glB_iff M.sc h2).1 (M.blt "enumerate" (by decide)) (ckE_ok e M h4).pe (by simpa using h3)
      | _ => cases h0
    · cases h
  | .items _, tg, x, sc, raw, X, M, h => by cases h
  | .vals _, tg, x, sc, raw, X, M, h => by cases h
theorem ckCs_ok : ∀ (cs : IEs) {xs : List Expr} {sc : Scope} {raw : Option Scope} {X : Cx}, AmbC G C sc raw X → ckCs G sc cs xs = true → PTs X xs (tCs X.K X.w C cs)
  | .nil, [], sc, raw, X, M, h => cs_nil
  | .nil, _ :: _, sc, raw, X, M, h => by cases h
  | .cons c .nil, [x], sc, raw, X, M, h => by
    unfold ckCs at h
    split at h
    · rename_i i e
      rw [ownT_eq e]
      obtain ⟨_, _, q, n, p, rfl⟩ := nm1_ok M h
      exact cs_one (pt_own q)
    · exact cs_one (ckE_ok c M h).pt
  | .cons c .nil, [], sc, raw, X, M, h => by cases h
  | .cons c .nil, _ :: _ :: _, sc, raw, X, M, h => by cases h
  | .cons c (.cons _ _), _, sc, raw, X, M, h => by cases h
end
end
end DV
end

section
/-! the check of statements; defs -/
namespace DV
open PySem PySem.Spec PyProof.Rows L2

def vAsg : Stmt → Option (Expr × Expr)
  | .Assign [t] v _ => some (t, v)
  | _ => none
theorem vAsg_eq {s : Stmt} {t v : Expr} (h : vAsg s = some (t, v)) : ∃ p, s = .Assign [t] v p := by
  unfold vAsg at h
  split at h
  · cases h; exact ⟨_, rfl⟩
  · cases h
def vAug : Stmt → Option (Expr × Operator × Expr)
  | .AugAssign t o v _ => some (t, o, v)
  | _ => none
theorem vAug_eq {s : Stmt} {t v : Expr} {o : Operator} (h : vAug s = some (t, o, v)) : ∃ p, s = .AugAssign t o v p := by
  unfold vAug at h
  split at h
  · cases h; exact ⟨_, rfl⟩
  · cases h
/-- x[k] -/
def vSub : Expr → Option (Str × Expr)
  | .Subscript (.Name x _) k _ => some (x, k)
  | _ => none
theorem vSub_eq {e k : Expr} {x : Str} (h : vSub e = some (x, k)) : ∃ p q, e = .Subscript (.Name x p) k q := by
  unfold vSub at h
  split at h
  · cases h; exact ⟨_, _, rfl⟩
  · cases h
def vExp : Stmt → Option Expr
  | .Expr y _ => some y
  | _ => none
theorem vExp_eq {s : Stmt} {y : Expr} (h : vExp s = some y) : ∃ p, s = .Expr y p := by
  unfold vExp at h
  split at h
  · cases h; exact ⟨_, rfl⟩
  · cases h
def vRet : Stmt → Option (Option Expr)
  | .Return y _ => some y
  | _ => none
theorem vRet_eq {s : Stmt} {y : Option Expr} (h : vRet s = some y) : ∃ p, s = .Return y p := by
  unfold vRet at h
  split at h
  · cases h; exact ⟨_, rfl⟩
  · cases h
def vIfS : Stmt → Option (Expr × List Stmt × List Stmt)
  | .If z a b _ => some (z, a, b)
  | _ => none
theorem vIfS_eq {s : Stmt} {z : Expr} {a b : List Stmt} (h : vIfS s = some (z, a, b)) : ∃ p, s = .If z a b p := by
  unfold vIfS at h
  split at h
  · cases h; exact ⟨_, rfl⟩
  · cases h
def vFor : Stmt → Option (Expr × Expr × List Stmt)
  | .For t i b [] _ => some (t, i, b)
  | _ => none
theorem vFor_eq {s : Stmt} {t i : Expr} {b : List Stmt} (h : vFor s = some (t, i, b)) : ∃ p, s = .For t i b [] p := by
  unfold vFor at h
  split at h
  · cases h; exact ⟨_, rfl⟩
  · cases h
def vWhile : Stmt → Option (Expr × List Stmt)
  | .While z b [] _ => some (z, b)
  | _ => none
theorem vWhile_eq {s : Stmt} {z : Expr} {b : List Stmt} (h : vWhile s = some (z, b)) : ∃ p, s = .While z b [] p := by
  unfold vWhile at h
  split at h
  · cases h; exact ⟨_, rfl⟩
  · cases h
def isPass : Stmt → Bool
  | .Pass _ => true
  | _ => false
def isBrk : Stmt → Bool
  | .Break _ => true
  | _ => false
def isCnt : Stmt → Bool
  | .Continue _ => true
  | _ => false
/-- names of a pair or a triple: locals on one line -/
def locNm (sc : Scope) : Expr → Option Nat
  | .Name n p => match sc.names.lookup n with
    | some .local => some p.line
    | _ => none
  | _ => none
def parB (sc : Scope) : List (Nat × Bool) → List Expr → List Expr → Bool
  | [t1, t2], [x1, x2], [a, b] => decide (t1.1 ≠ t2.1) && (match sc.kind with | .function => true | _ => false) && (match locNm sc x1, locNm sc x2 with | some l1, some l2 => l2 == l1 | _, _ => false) && !([a, b].all (foldedForSure 8)) && !([a, b].all (constantsAlone 8))
  | [t1, t2, t3], [x1, x2, x3], [a, b, c] => decide (t1.1 ≠ t2.1) && decide (t1.1 ≠ t3.1) && decide (t2.1 ≠ t3.1) && (match sc.kind with | .function => true | _ => false) && (match locNm sc x1, locNm sc x2, locNm sc x3 with | some l1, some l2, some l3 => l2 == l1 && l3 == l1 | _, _, _ => false) && !([a, b, c].all (foldedForSure 8)) && !([a, b, c].all (constantsAlone 8))
  | _, _, _ => false
def parT (xs vs : List Expr) : Bool := !(xs.length == 2 || xs.length == 3) || vs.all (foldedForSure 8)
/-- a name that is no plain local -/
def parC (sc : Scope) (xs : List Expr) : Bool := xs.any fun x => match x with
  | .Name n _ => (match sc.names.lookup n with
    | some .local => false
    | _ => true)
  | _ => false
theorem parC_ok {sc : Scope} {xs : List Expr} (h : parC sc xs = true) : ∃ n p, Expr.Name n p ∈ xs ∧ sc.names.lookup n ≠ some .local := by
  obtain ⟨x, hx, q⟩ := List.any_eq_true.mp h
  cases x with
  | Name n p =>
    refine ⟨n, p, hx, fun e => ?_⟩
    have q : (match sc.names.lookup n with
      | some .local => false
      | _ => true) = true := q
    rw [e] at q
    cases q
  | _ => cases q
def isCompI : IE → Bool
  | .comp .. => true
  | .comp2 .. => true
  | _ => false
def swpB (sc : Scope) (tg v : Expr) : Bool := match tg, v with
  | .Name x p, .ListComp _ _ scope q => swB sc x p q scope
  | _, _ => false
mutual
def ckS (G : Ck) (sc : Scope) : IS → Stmt → Bool
  | .asg (.nm i) own e, s => match vAsg s with
    | some (tg, v) => ckTg G sc none (.nm i) tg && (!own || freshE e) && ckE G sc e v && (if isComp v then isCompI e && swpB sc tg v else true)
    | none => false
  | .asg (.tp ts) own e, s => match vAsg s with
    | some (tg, v) => !own && ckTg G sc none (.tp ts) tg && (tnss ts).all (notIoB G.io) && noTup v && ckE G sc e v
    | none => false
  | .par ts es, s => match vAsg s with
    | some (tg, v) => match vTup tg, vTup v with
      | some xs, some vs => valOps es && freshOk ts es && ckNms G sc none ts xs && nostar vs && decide (ts.length ≤ 1000) && (parB sc ts xs vs || (parT xs vs || parC sc xs)) && ckOps G sc es vs
      | _, _ => false
    | none => false
  | .aug i o e, s => match vAug s with
    | some (tg, o', v) => decide (o = o') && ckTg G sc none (.nm i) tg && ckE G sc e v
    | none => false
  | .setIx i k e, s => match vAsg s with
    | some (tg, v) => match vSub tg with
      | some (x, kx) => ckN G sc i x && !isSlice kx && ckE G sc k kx && ckE G sc e v
      | none => false
    | none => false
  | .augIx i k o e, s => match vAug s with
    | some (tg, o', v) => match vSub tg with
      | some (x, kx) => decide (o = o') && ckN G sc i x && !isSlice kx && ckE G sc k kx && ckE G sc e v
      | none => false
    | none => false
  | .exp e, s => match vExp s with
    | some y => !isComp y && ckE G sc e y
    | none => false
  | .ret e, s => match vRet s with
    | some (some y) => ckE G sc e y
    | _ => false
  | .retN, s => match vRet s with
    | some none => true
    | _ => false
  | .iff c a b, s => match vIfS s with
    | some (z, as, bs) => (match ownT c with
      | some i => ckNm1 G sc i z
      | none => ckE G sc c z) && ckSs G sc a as && ckSs G sc b bs
    | none => false
  | .for_ t it b, s => match vFor s with
    | some (tx, ix, bs) => ckTg G sc none t tx && (tns t).all (notIoB G.io) && !isSetD ix && ckI G sc it tx ix && ckSs G sc b bs
    | none => false
  | .while_ c b, s => match vWhile s with
    | some (z, bs) => (match ownT c with
      | some i => ckNm1 G sc i z
      | none => ckE G sc c z) && ckSs G sc b bs
    | none => false
  | .brk, s => isBrk s
  | .cont, s => isCnt s
  | .pass, s => isPass s
  | .fail, _ => true
def ckSs (G : Ck) (sc : Scope) : ISs → List Stmt → Bool
  | .nil, [] => true
  | .cons s ss, st :: sts => ckS G sc s st && ckSs G sc ss sts
  | _, _ => false
end
section
variable {G : Ck} {C : Call} {sc : Scope} {X : Cx}
theorem pt_ok {raw : Option Scope} (M : AmbC G C sc raw X) {c : IE} {z : Expr} (h : (match ownT c with | some i => ckNm1 G sc i z | none => ckE G sc c z) = true) : PT X z (tT X.K X.w C c) := by
  split at h
  · rename_i i e
    rw [ownT_eq e]
    obtain ⟨_, _, q, n, p, rfl⟩ := nm1_ok M h
    exact pt_own q
  · exact (ckE_ok c M h).pt
theorem lc_store (M : AmbC G C sc none X) {vs : List Nat} {t : Tg} {it : It} {cs : IEs} {elt : IE} {i : Nat} {own : Bool} {tg v : Expr} {pos : Pos} (ht : ckTg G sc none (.nm i) tg = true) (h : ckE G sc (.comp vs t it cs elt) v = true) (hw : swpB sc tg v = true) : PS X (.Assign [tg] v pos) (tS X.K X.w C G.io (.asg (.nm i) own (.comp vs t it cs elt))) := by
  have hck := h
  unfold ckE at h
  split at h
  · rename_i ex tg1 iter ifs scope e
    obtain ⟨p, rfl⟩ := vLc_eq e
    rw [Bool.and_eq_true, Bool.and_eq_true, Bool.and_eq_true, Bool.and_eq_true, Bool.and_eq_true, Bool.and_eq_true] at h
    obtain ⟨⟨⟨⟨⟨⟨h1, h2⟩, h3⟩, h4⟩, h5⟩, h6⟩, h7⟩ := h
    obtain ⟨n, py, rfl, e1, e2⟩ := ckNm_name ht
    have hio : notIoB G.io i = true := by
      have ht : (decide (G.N[i]? = some n) && locB sc none n && notIoB G.io i) = true := ht
      rw [Bool.and_eq_true] at ht
      exact ht.2
    obtain ⟨l1, l2⟩ := swB_iff (X := X) (elt := ex) (gs := [⟨tg1, iter, ifs, 0⟩]) (l := pos.line) M.sc hw
    have ok : BlkOk X.N X.env.scope scope (ownP G vs) := by rw [M.N, M.sc]; exact blkOk_by h1
    have q := ps_setLc (wi := tI X.K X.w C it) (g := tG X.K X.w t) (tt := tCs X.K X.w C cs) (te := tE X.K X.w C elt) M.calm M.nd (by rw [M.N]; exact e1) l1 l2 (ckI_ok it M h5) ok (fun s H L cl fp => tg_ok (M.blk scope s H L cl fp).wr h4) (fun s H L cl fp => ckCs_ok cs (M.blk scope s H L cl fp) h6) (fun s H L cl fp => (ckE_ok elt (M.blk scope s H L cl fp) h7).pe) (folded_of (by simpa using h3))
    rw [ownP_map] at q
    exact q.weaken fun D σ H z => lc_key (subN_mem h2) (asg_key (fun _ => rfl) hio z)
  · cases h
theorem lc2_store (M : AmbC G C sc none X) {vs vs1 : List Nat} {t t1 : Tg} {it it1 : It} {cs cs1 : IEs} {elt : IE} {i : Nat} {own : Bool} {tg v : Expr} {pos : Pos} (ht : ckTg G sc none (.nm i) tg = true) (h : ckE G sc (.comp2 vs t it cs vs1 t1 it1 cs1 elt) v = true) (hw : swpB sc tg v = true) : PS X (.Assign [tg] v pos) (tS X.K X.w C G.io (.asg (.nm i) own (.comp2 vs t it cs vs1 t1 it1 cs1 elt))) := by
  unfold ckE at h
  split at h
  · rename_i ex tg0 iter ifs scope tg1 iter1 ifs1 e
    obtain ⟨p, rfl⟩ := vLc2_eq e
    simp only [Bool.and_eq_true] at h
    obtain ⟨⟨⟨⟨⟨⟨⟨⟨⟨⟨⟨⟨h1, h2⟩, h3⟩, h4⟩, h5⟩, h6⟩, h7⟩, h8⟩, h9⟩, h10⟩, h11⟩, h12⟩, h13⟩ := h
    obtain ⟨n, py, rfl, e1, e2⟩ := ckNm_name ht
    have hio : notIoB G.io i = true := by
      have ht : (decide (G.N[i]? = some n) && locB sc none n && notIoB G.io i) = true := ht
      rw [Bool.and_eq_true] at ht
      exact ht.2
    obtain ⟨l1, l2⟩ := swB_iff (X := X) (elt := ex) (gs := [⟨tg0, iter, ifs, 0⟩, ⟨tg1, iter1, ifs1, 0⟩]) (l := pos.line) M.sc hw
    have ok : BlkOk X.N X.env.scope scope (ownP G vs) := by rw [M.N, M.sc]; exact blkOk_by h1
    have q := ps_setLc2 (vs1 := vs1) (wi := tI X.K X.w C it) (g := tG X.K X.w t) (tt := tCs X.K X.w C cs) (wi1 := tI X.K X.w C it1) (g1 := tG X.K X.w t1) (tt1 := tCs X.K X.w C cs1) (te := tE X.K X.w C elt) M.calm M.nd (by rw [M.N]; exact e1) l1 l2 (ckI_ok it M h9) ok (by rw [ownP_map]; exact subN_mem h4) (fun s H L cl fp => tg_ok (M.blk scope s H L cl fp).wr h7) (fun s H L cl fp => ckCs_ok cs (M.blk scope s H L cl fp) h10) (fun s H L cl fp => ckI_ok it1 (M.blk scope s H L cl fp) h11)
        (fun s H L cl fp => tg_ok (M.blk scope s H L cl fp).wr h8) (fun s H L cl fp => ckCs_ok cs1 (M.blk scope s H L cl fp) h12) (fun s H L cl fp => (ckE_ok elt (M.blk scope s H L cl fp) h13).pe) (folded_of (by simpa using h5)) (fun env => folded_of (by simpa using h6))
    rw [ownP_map] at q
    exact q.weaken fun D σ H z => lc2_key (subN_mem h2) (subN_mem h3) (subN_mem h4) (asg_key (fun _ => rfl) hio z)
  · cases h
theorem locNm_eq {x : Expr} {l : Nat} (h : locNm sc x = some l) {n : Str} {p : Pos} (e : x = .Name n p) : sc.names.lookup n = some .local ∧ p.line = l := by
  subst e
  have h : (match sc.names.lookup n with | some .local => some p.line | _ => none) = some l := h
  split at h
  · rename_i e; cases h; exact ⟨e, rfl⟩
  · cases h
theorem s_parAll (M : AmbC G C sc none X) {ts : List (Nat × Bool)} {es : IEs} {xs vs : List Expr} {kt k2 : Nat} {pt pt2 pos : Pos} (hv : valOps es = true) (hf : freshOk ts es = true) (hn : ckNms G sc none ts xs = true) (hx : OpsP X C es vs) (ns : nostar vs = true) (hsz : ts.length ≤ sizeLine)
    (h : (parB sc ts xs vs || (parT xs vs || parC sc xs)) = true) : PS X (.Assign [.Tuple xs kt pt] (.Tuple vs k2 pt2) pos) (tS X.K X.w C G.io (.par ts es)) := by
  rcases Bool.or_eq_true_iff.mp h with h | h
  · unfold parB at h
    split at h
    · simp only [Bool.and_eq_true] at h
      obtain ⟨⟨⟨⟨h1, h2⟩, h3⟩, h4⟩, h5⟩ := h
      refine s_par2 M.wr hv hf hn hx ns (of_decide_eq_true h1) ?_ (fun n p m q e1 e2 => ?_) ((Bool.not_eq_true' _).mp h4) ((Bool.not_eq_true' _).mp h5)
      · split at h2
        · assumption
        · cases h2
      · split at h3
        · rename_i l1 l2 f1 f2
          obtain ⟨a1, b1⟩ := locNm_eq f1 e1
          obtain ⟨a2, b2⟩ := locNm_eq f2 e2
          exact ⟨a1, a2, by rw [b1, b2]; exact h3⟩
        · cases h3
    · simp only [Bool.and_eq_true] at h
      obtain ⟨⟨⟨⟨⟨⟨h1, h1'⟩, h1''⟩, h2⟩, h3⟩, h4⟩, h5⟩ := h
      refine s_par3 M.wr hv hf hn hx ns (of_decide_eq_true h1) (of_decide_eq_true h1') (of_decide_eq_true h1'') ?_ (fun n p m q l s e1 e2 e3 => ?_) ((Bool.not_eq_true' _).mp h4) ((Bool.not_eq_true' _).mp h5)
      · split at h2
        · assumption
        · cases h2
      · split at h3
        · rename_i l1 l2 l3 f1 f2 f3
          rw [Bool.and_eq_true] at h3
          obtain ⟨a1, b1⟩ := locNm_eq f1 e1
          obtain ⟨a2, b2⟩ := locNm_eq f2 e2
          obtain ⟨a3, b3⟩ := locNm_eq f3 e3
          exact ⟨a1, a2, a3, by rw [b1, b2]; exact h3.1, by rw [b1, b3]; exact h3.2⟩
        · cases h3
    · cases h
  · rcases Bool.or_eq_true_iff.mp h with h | h
    · exact s_parT M.wr hv hf hn hx ns hsz (swapped_none h)
    · obtain ⟨n, p, hm, hl⟩ := parC_ok h
      exact s_parT M.wr hv hf hn hx ns hsz (swapped_cell hm fun e => hl (by rw [← M.wr.sc]; exact e))
mutual
theorem ckS_ok (hp : PassesOwn (model X.prog X.w) X.A X.env X.xe) (M : AmbC G C sc none X) : ∀ (s : IS) {st : Stmt}, ckS G sc s st = true → PS X st (tS X.K X.w C G.io s)
  | .asg (.nm i) own e, st, h => by
    unfold ckS at h
    split at h
    · rename_i tg v ev
      obtain ⟨p, rfl⟩ := vAsg_eq ev
      simp only [Bool.and_eq_true] at h
      obtain ⟨⟨⟨h1, h2⟩, h3⟩, h4⟩ := h
      cases hc : isComp v with
      | true =>
        rw [hc, if_pos rfl, Bool.and_eq_true] at h4
        cases e with
        | comp vs t it cs elt => exact lc_store M h1 h3 h4.2
        | comp2 vs t it cs vs1 t1 it1 cs1 elt => exact lc2_store M h1 h3 h4.2
        | _ => cases h4.1
      | false =>
        obtain ⟨n, py, rfl, _, _⟩ := ckNm_name h1
        exact s_asg M.wr h1 (fun ho => by rw [ho] at h2; simpa using h2) (ckE_ok e M h3).pe hc
    · cases h
  | .asg (.tp ts) own e, st, h => by
    unfold ckS at h
    split at h
    · rename_i tg v ev
      obtain ⟨p, rfl⟩ := vAsg_eq ev
      simp only [Bool.and_eq_true] at h
      obtain ⟨⟨⟨⟨h0, h1⟩, h2⟩, h3⟩, h4⟩ := h
      have : own = false := by simpa using h0
      subst this
      cases tg with
      | Tuple es k q => exact s_asgT M.wr h1 (fun i hi => List.all_eq_true.mp h2 i hi) (ckE_ok e M h4).pe h3
      | _ => cases h1
    · cases h
  | .par ts es, st, h => by
    unfold ckS at h
    split at h
    · rename_i tg v ev
      obtain ⟨p, rfl⟩ := vAsg_eq ev
      split at h
      · rename_i xs vs e1 e2
        obtain ⟨n1, p1, rfl⟩ := vTup_eq e1
        obtain ⟨n2, p2, rfl⟩ := vTup_eq e2
        simp only [Bool.and_eq_true] at h
        obtain ⟨⟨⟨⟨⟨⟨h1, h2⟩, h3⟩, h4⟩, h5⟩, h6⟩, h7⟩ := h
        exact s_parAll M h1 h2 h3 (ckOps_ok es M h7) h4 (size1000 h5) h6
      · cases h
    · cases h
  | .aug i o e, st, h => by
    unfold ckS at h
    split at h
    · rename_i tg o' v ev
      obtain ⟨p, rfl⟩ := vAug_eq ev
      simp only [Bool.and_eq_true] at h
      obtain ⟨⟨h0, h1⟩, h2⟩ := h
      have eo := of_decide_eq_true h0
      subst eo
      obtain ⟨n, py, rfl, _, _⟩ := ckNm_name h1
      exact s_aug M.wr h1 (ckE_ok e M h2).pe
    · cases h
  | .setIx i k e, st, h => by
    unfold ckS at h
    split at h
    · rename_i tg v ev
      obtain ⟨p, rfl⟩ := vAsg_eq ev
      split at h
      · rename_i x kx e1
        obtain ⟨p1, q1, rfl⟩ := vSub_eq e1
        simp only [Bool.and_eq_true] at h
        obtain ⟨⟨⟨h0, h1⟩, h2⟩, h3⟩ := h
        exact s_setIx M.un (g_var (C := C) M.N M.sc h0).2.2 (ckE_ok k M h2).pe (ckE_ok e M h3).pe (by simpa using h1)
      · cases h
    · cases h
  | .augIx i k o e, st, h => by
    unfold ckS at h
    split at h
    · rename_i tg o' v ev
      obtain ⟨p, rfl⟩ := vAug_eq ev
      split at h
      · rename_i x kx e1
        obtain ⟨p1, q1, rfl⟩ := vSub_eq e1
        simp only [Bool.and_eq_true] at h
        obtain ⟨⟨⟨⟨h0, h1⟩, h2⟩, h3⟩, h4⟩ := h
        have eo := of_decide_eq_true h0
        subst eo
        exact s_augIx M.un (g_var (C := C) M.N M.sc h1).2.2 (ckE_ok k M h3).pe (ckE_ok e M h4).pe (by simpa using h2)
      · cases h
    · cases h
  | .exp e, st, h => by
    unfold ckS at h
    split at h
    · rename_i y ev
      obtain ⟨p, rfl⟩ := vExp_eq ev
      rw [Bool.and_eq_true] at h
      exact s_exp (ckE_ok e M h.2).pe (by simpa using h.1)
    · cases h
  | .ret e, st, h => by
    unfold ckS at h
    split at h
    · rename_i y ev
      obtain ⟨p, rfl⟩ := vRet_eq ev
      exact s_ret (ckE_ok e M h).pe
    · cases h
  | .retN, st, h => by
    unfold ckS at h
    split at h
    · rename_i ev
      obtain ⟨p, rfl⟩ := vRet_eq ev
      exact s_retN
    · cases h
  | .iff c a b, st, h => by
    unfold ckS at h
    split at h
    · rename_i z as bs ev
      obtain ⟨p, rfl⟩ := vIfS_eq ev
      rw [Bool.and_eq_true, Bool.and_eq_true] at h
      exact s_iff (pt_ok M h.1.1) (ckSs_ok hp M a h.1.2) (ckSs_ok hp M b h.2)
    · cases h
  | .for_ t it b, st, h => by
    unfold ckS at h
    split at h
    · rename_i tx ix bs ev
      obtain ⟨p, rfl⟩ := vFor_eq ev
      simp only [Bool.and_eq_true] at h
      obtain ⟨⟨⟨⟨h1, h2⟩, h3⟩, h4⟩, h5⟩ := h
      exact s_for hp M.wr h1 (fun i hi => List.all_eq_true.mp h2 i hi) (ckI_ok it M h4) (ckSs_ok hp M b h5) (by simpa using h3)
    · cases h
  | .while_ c b, st, h => by
    unfold ckS at h
    split at h
    · rename_i z bs ev
      obtain ⟨p, rfl⟩ := vWhile_eq ev
      rw [Bool.and_eq_true] at h
      exact s_while hp (pt_ok M h.1) (ckSs_ok hp M b h.2)
    · cases h
  | .brk, st, h => by
    unfold ckS isBrk at h
    split at h
    · exact s_brk
    · cases h
  | .cont, st, h => by
    unfold ckS isCnt at h
    split at h
    · exact s_cont
    · cases h
  | .pass, st, h => by
    unfold ckS isPass at h
    split at h
    · exact s_pass
    · cases h
  | .fail, st, h => s_fail
theorem ckSs_ok (hp : PassesOwn (model X.prog X.w) X.A X.env X.xe) (M : AmbC G C sc none X) : ∀ (s : ISs) {st : List Stmt}, ckSs G sc s st = true → PSs X st (tSs X.K X.w C G.io s)
  | .nil, [], h => s_nil
  | .nil, _ :: _, h => by cases h
  | .cons _ _, [], h => by cases h
  | .cons s ss, st :: sts, h => by
    have h : (ckS G sc s st && ckSs G sc ss sts) = true := h
    rw [Bool.and_eq_true] at h
    exact s_cons (ckS_ok hp M s h.1) (ckSs_ok hp M ss h.2)
end
end
end DV
end

section
/-! all defs of a text -/
namespace DV
open PySem PySem.Spec PyProof.Rows L2
section
variable {K : PySem.W.Frag} {w : World} {Z : Addr → Prop} {ρ : Ro} {σ : L2.St} {H : Hp}
theorem app_at {α : Type} {l : List α} {m : Nat} {x y : α} {j : Nat} (h : (l ++ List.replicate m x)[j]? = some y) : l[j]? = some y ∨ y = x := by
  by_cases hj : j < l.length
  · rw [List.getElem?_append_left hj] at h; exact .inl h
  · rw [List.getElem?_append_right (by omega), List.getElem?_replicate] at h
    split at h
    · cases h; exact .inr rfl
    · cases h
theorem app_in {α : Type} {l : List α} {m : Nat} {x y : α} {j : Nat} (h : l[j]? = some y) : (l ++ List.replicate m x)[j]? = some y := by
  rw [List.getElem?_append_left (List.getElem?_eq_some_iff.mp h).1]; exact h
theorem Rel.extend (r : Rel K w Z ρ σ H) (m : Nat) : Rel K w Z (ρ ++ List.replicate m Sl.no) (σ ++ List.replicate m none) H ∧ ∀ a, Ow (ρ ++ List.replicate m Sl.no) (σ ++ List.replicate m none) a ↔ Ow ρ σ a := by
  have iff : ∀ a, Ow (ρ ++ List.replicate m Sl.no) (σ ++ List.replicate m none) a ↔ Ow ρ σ a := by
    intro a
    constructor
    · rintro ⟨i, d, h1, h2⟩
      rcases app_at h1 with h1 | h1
      · rcases app_at h2 with h2 | h2
        · exact ⟨i, d, h1, h2⟩
        · cases h2
      · cases h1
    · rintro ⟨i, d, h1, h2⟩
      exact ⟨i, d, app_in h1, app_in h2⟩
  have g : Go (PP Z ρ σ) H (PP Z (ρ ++ List.replicate m Sl.no) (σ ++ List.replicate m none)) H := Go.sub fun a q => q.imp id (iff a).mp
  refine ⟨⟨by rw [List.length_append, List.length_append, List.length_replicate, List.length_replicate, r.len], fun j d h => ?_, fun j d h => ?_, fun j k a d e h1 h2 h3 h4 => ?_, r.z⟩, iff⟩
  · rcases app_at h with h | h
    · obtain ⟨v, ev, dv⟩ := r.sh j d h
      exact ⟨v, app_in ev, dv.go g⟩
    · cases h
  · rcases app_at h with h | h
    · obtain ⟨a, ea, na, c⟩ := r.ow j d h
      exact ⟨a, app_in ea, na, c.go g rfl⟩
    · cases h
  · rcases app_at h1 with h1 | h1
    · rcases app_at h2 with h2 | h2
      · rcases app_at h3 with h3 | h3
        · rcases app_at h4 with h4 | h4
          · exact r.inj j k a d e h1 h2 h3 h4
          · cases h4
        · cases h3
      · cases h2
    · cases h1
theorem inSl_par : ∀ {io : List Bool} {ds : List D} {ρ : Ro}, inSl io ds = some ρ → ρ = parSl io ds ∧ ds.length = io.length
  | [], [], ρ, h => by cases h; exact ⟨rfl, rfl⟩
  | b :: bs, d :: ds, ρ, h => by
    obtain ⟨r, h1, rfl⟩ := Option.map_eq_some_iff.mp (show (inSl bs ds).map ((if b then Sl.ow d else Sl.sh d) :: ·) = some ρ from h)
    obtain ⟨q1, q2⟩ := inSl_par h1
    exact ⟨by rw [q1]; rfl, congrArg (· + 1) q2⟩
  | [], _ :: _, _, h => by cases h
  | _ :: _, [], _, h => by cases h
theorem outSl_at : ∀ {io : List Bool} {ρ : Ro} {os : List D}, outSl io ρ = some os → os.length = (io.filter id).length ∧ (retSl io os).length = io.length ∧ (∀ (i : Nat) d, (retSl io os)[i]? = some (Sl.ow d) → io[i]? = some true ∧ ρ[i]? = some (Sl.ow d)) ∧ ∀ (i : Nat) d, (retSl io os)[i]? ≠ some (Sl.sh d)
  | [], ρ, os, h => by
    cases ρ with
    | nil => cases h; exact ⟨rfl, rfl, fun i d q => by simp [retSl] at q, fun i d q => by simp [retSl] at q⟩
    | cons x ρ => cases x <;> (cases h; exact ⟨rfl, rfl, fun i d q => by simp [retSl] at q, fun i d q => by simp [retSl] at q⟩)
  | true :: bs, ρ, os, h => by
    cases ρ with
    | nil => cases h
    | cons x ρ =>
      cases x with
      | ow d =>
        obtain ⟨r, h1, rfl⟩ := Option.map_eq_some_iff.mp (show (outSl bs ρ).map (d :: ·) = some os from h)
        obtain ⟨q1, q2, q3, q4⟩ := outSl_at h1
        refine ⟨congrArg (· + 1) q1, congrArg (· + 1) q2, fun i e q => ?_, fun i e q => ?_⟩
        · cases i with
          | zero => cases (show some (Sl.ow d) = some (Sl.ow e) from q); exact ⟨rfl, rfl⟩
          | succ i => exact q3 i e q
        · cases i with
          | zero => cases (show some (Sl.ow d) = some (Sl.sh e) from q)
          | succ i => exact q4 i e q
      | no => cases h
      | sh _ => cases h
  | false :: bs, ρ, os, h => by
    cases ρ with
    | nil => cases h
    | cons x ρ =>
      have h : outSl bs ρ = some os := by cases x <;> exact h
      obtain ⟨q1, q2, q3, q4⟩ := outSl_at h
      refine ⟨q1, by cases os <;> exact congrArg (· + 1) q2, fun i e q => ?_, fun i e q => ?_⟩
      · cases i with
        | zero => cases os <;> cases (show some Sl.no = some (Sl.ow e) from q)
        | succ i => exact q3 i e (by cases os <;> exact q)
      · cases i with
        | zero => cases os <;> cases (show some Sl.no = some (Sl.sh e) from q)
        | succ i => exact q4 i e (by cases os <;> exact q)
theorem ret_rel {io : List Bool} {os : List D} {vs : List V} (r : Rel K w Z ρ σ H) (h : outSl io ρ = some os) (hl : vs.length = io.length) (hs : ∀ i : Nat, io[i]? = some true → σ[i]? = (vs.map some)[i]?) :
    Rel K w Z (retSl io os) (vs.map some) H ∧ ∀ a, Ow (retSl io os) (vs.map some) a → Ow ρ σ a := by
  obtain ⟨q1, q2, q3, q4⟩ := outSl_at h
  have sub : ∀ a, Ow (retSl io os) (vs.map some) a → Ow ρ σ a := fun a q => by
    obtain ⟨i, d, h1, h2⟩ := q
    obtain ⟨e1, e2⟩ := q3 i d h1
    exact ⟨i, d, e2, by rw [hs i e1]; exact h2⟩
  refine ⟨⟨by rw [q2, List.length_map, hl], fun i d q => absurd q (q4 i d), fun i d q => ?_, fun i j a d e h1 h2 h3 h4 => ?_, r.z⟩, sub⟩
  · obtain ⟨e1, e2⟩ := q3 i d q
    obtain ⟨a, ea, na, c⟩ := r.ow i d e2
    exact ⟨a, by rw [← hs i e1]; exact ea, na, c.go (Go.sub fun a q => q.imp id (sub a)) rfl⟩
  · obtain ⟨e1, e2⟩ := q3 i d h1
    obtain ⟨f1, f2⟩ := q3 j e h2
    exact r.inj i j a d e e2 f2 (by rw [hs i e1]; exact h3) (by rw [hs j f1]; exact h4)
end

/-- a def of the text: its name, parameters, slots, statement -/
structure Dd where
  x : Str
  ps : List Str
  N : List Str
  st : Stmt
def undoc : List Stmt → List Stmt
  | .Expr (.Constant (.str _) _ _) _ :: r => r
  | r => r
def scB (N P : List Str) (sc : Scope) : Bool :=
  (match sc.kind with | .function => true | _ => false) && !sc.isCoroutine && !sc.isGenerator && decide N.Nodup && decide (N.take P.length = P) && P.all (fun x => match sc.names.lookup x with | some .local => true | some .cell => true | _ => false) && sc.names.all (fun y => match y.2 with | .free => false | _ => true)
theorem scB_iff {N P : List Str} {sc : Scope} (h : scB N P sc = true) : FnScope N P sc := by
  unfold scB at h
  simp only [Bool.and_eq_true] at h
  obtain ⟨⟨⟨⟨⟨⟨h1, h2⟩, h3⟩, h4⟩, h5⟩, h6⟩, h7⟩ := h
  refine ⟨?_, by simpa using h2, by simpa using h3, of_decide_eq_true h4, of_decide_eq_true h5, fun x hx => ?_, fun y hy e => ?_⟩
  · split at h1
    · assumption
    · cases h1
  · have := List.all_eq_true.mp h6 x hx
    split at this
    · rename_i e; exact .inl e
    · rename_i e; exact .inr e
    · cases this
  · have := List.all_eq_true.mp h7 y hy
    rw [e] at this
    cases this
def ckOf (tab : List Fi) (ds : List Dd) (gl : List (Str × D)) (d : Dd) (fi : Fi) : Ck := { N := d.N, io := fi.io, fns := (ds.zip tab).map fun p => (p.1.x, p.2.io), glbs := gl }
def ckF (tab : List Fi) (ds : List Dd) (gl : List (Str × D)) (d : Dd) (fi : Fi) : Bool :=
  scB d.N d.ps (defScope d.st) && decide (d.N.length = fi.slots) && decide (fi.io.length = d.ps.length) && ckSs (ckOf tab ds gl d fi) (defScope d.st) fi.body (undoc (defBody d.st))
def ckDefs (tab : List Fi) (ds : List Dd) (gl : List (Str × D)) : Bool := decide (tab.length = ds.length) && (ds.zip tab).all fun p => ckF tab ds gl p.1 p.2
structure DIn (K : PySem.W.Frag) (mg : Str → Option Value) (d : Dd) (a : Addr) (fd : FuncData) : Prop where
  fn : Fun K d.x d.x d.st a fd
  mgf : mg d.x = some (.ref a)
  binds : Binds K fd d.ps []
section
variable {P : Program} {w : World} {K : PySem.W.Frag} {mg : Str → Option Value} {base : Heap} {tab : List Fi} {ds : List Dd} {gl : List (Str × D)}
theorem undoc_ok {X : Cx} {io : List Bool} {C : Call} {ss : ISs} {b : List Stmt} (h : PSs X (undoc b) (tSs X.K X.w C io ss)) : PSs X b (tSs X.K X.w C io ss) := by
  unfold undoc at h
  split at h
  · exact s_doc h
  · exact h
/-- ALL DEFS keep what the plain machine says -/
theorem table_ok (ck : ckDefs tab ds gl = true) (hin : ∀ (f : Nat) d, ds[f]? = some d → ∃ a fd, DIn K mg d a fd) (blt : ∀ x ∈ bltNames, mg x = none) (glb : ∀ p ∈ gl, ∃ v u, mg p.1 = some u ∧ RelV v u ∧ ∀ P H, Den K w P H v p.2) :
    ∀ (n f : Nat) d fi, ds[f]? = some d → tab[f]? = some fi → ∀ a fd, DIn K mg d a fd → FnOk P w K mg base CX0 n a fd d.ps (spOf K w fi.io f (evF tab n)) := by
  unfold ckDefs at ck
  rw [Bool.and_eq_true] at ck
  have hlen := of_decide_eq_true ck.1
  intro n
  induction n with
  | zero =>
    intro f d fi hd hfi a fd _
    refine ⟨fun vs H Q E h => ?_, fun A outer s H args us vs Q E hr he hb hv hs => ?_⟩
    · obtain ⟨Z, xs, r, os, _, _, _, h, _⟩ := h
      cases h
    · obtain ⟨Z, xs, r, os, _, _, _, h, _⟩ := hs
      cases h
  | succ n ih =>
    intro f d fi hd hfi a fd hD
    have hz : (ds.zip tab)[f]? = some (d, fi) := by rw [List.getElem?_zip_eq_some]; exact ⟨hd, hfi⟩
    have hck := List.all_eq_true.mp ck.2 (d, fi) (List.mem_of_getElem? hz)
    unfold ckF at hck
    simp only [Bool.and_eq_true] at hck
    obtain ⟨⟨⟨h1, h2⟩, h3⟩, h4⟩ := hck
    have S := scB_iff h1
    have hN := of_decide_eq_true h2
    have hP := of_decide_eq_true h3
    refine hD.fn.ok S (fun vs H Q E h => ?_) (fun cdv A outer s H vs Q E hr h => ?_)
    · obtain ⟨Z, xs, r, os, hl, _⟩ := h
      rw [hl, hP]
    · obtain ⟨Z, xs, r, os, hl, hl2, R, hC, hQ⟩ := h
      have M : AmbC (ckOf tab ds gl d fi) (evF tab n) (defScope d.st) none (cxOf CX0 P w K mg base d.N d.x (defScope d.st) a cdv A outer s H E).nox := by
        refine ⟨rfl, rfl, S.nd, ?_, rfl, blt, fun g y io hg => ?_, glb, fun x _ => rfl⟩
        · have := hr.un
          show (A.deeper _).units + 100 < cLine
          omega
        · have hg : ((ds.zip tab).map fun p => (p.1.x, p.2.io))[g]? = some (y, io) := hg
          rw [List.getElem?_map] at hg
          obtain ⟨⟨d', fi'⟩, e1, e2⟩ := Option.map_eq_some_iff.mp hg
          cases e2
          obtain ⟨q1, q2⟩ := List.getElem?_zip_eq_some.mp e1
          obtain ⟨a', fd', hD'⟩ := hin g d' q1
          refine ⟨n, a', fd', d'.ps, ?_, hr, hD'.mgf, hD'.fn.kp, hD'.binds⟩
          have F := ih g d' fi' q1 q2 a' fd' hD'
          have e3 : (((ckOf tab ds gl d fi).fns[g]?).map (·.2)).getD [] = fi'.io := by
            show (((((ds.zip tab).map fun p => (p.1.x, p.2.io)))[g]?).map (·.2)).getD [] = fi'.io
            rw [List.getElem?_map, e1]
            rfl
          show FnOk P w K mg base CX0 n a' fd' d'.ps (spOf K w ((((ckOf tab ds gl d fi).fns[g]?).map (·.2)).getD []) g (evF tab n))
          rw [e3]
          exact F
      refine ⟨tSs K w (evF tab n) fi.io fi.body, undoc_ok (ckSs_ok PassesOwn.never M fi.body h4), ?_⟩
      have hC : ((tab[f]?).bind fun fi => (inSl fi.io xs).bind fun ρ => (exSs (evF tab n) fi.body (ρ ++ List.replicate (fi.slots - xs.length) .no)).bind fun r => match r with
        | .nx ρ' => (outSl fi.io ρ').map fun os => (.none, os)
        | .rt d ρ' => (outSl fi.io ρ').map fun os => (d, os)
        | _ => none) = some (r, os) := hC
      rw [hfi] at hC
      obtain ⟨ρ0, e1, hC⟩ := Option.bind_eq_some_iff.mp (show ((inSl fi.io xs).bind fun ρ => (exSs (evF tab n) fi.body (ρ ++ List.replicate (fi.slots - xs.length) .no)).bind fun r => match r with
        | .nx ρ' => (outSl fi.io ρ').map fun os => (.none, os)
        | .rt d ρ' => (outSl fi.io ρ').map fun os => (d, os)
        | _ => none) = some (r, os) from hC)
      obtain ⟨rfl, _⟩ := inSl_par e1
      obtain ⟨fl, e2, hC⟩ := Option.bind_eq_some_iff.mp hC
      have em : d.N.length - vs.length = fi.slots - xs.length := by rw [hN, hl, hl2]
      obtain ⟨R1, iff⟩ := R.extend (fi.slots - xs.length)
      have est : L2.start d.N vs = vs.map some ++ List.replicate (fi.slots - xs.length) none := by unfold L2.start; rw [em]
      have entry : ∀ (i : Nat), fi.io[i]? = some true → (L2.start d.N vs)[i]? = (vs.map some)[i]? := fun i hi => by
        have hi' : i < (vs.map some).length := by
          rw [List.length_map, hl]
          exact (List.getElem?_eq_some_iff.mp hi).1
        rw [est, List.getElem?_append_left hi']
      have fin : ∀ {ρ' : Ro} {σ' : L2.St} {H' : Hp} {v : V}, Go (Ow (parSl fi.io xs ++ List.replicate (fi.slots - xs.length) Sl.no) (L2.start d.N vs)) H (Ow ρ' σ') H' → Rel K w Z ρ' σ' H' → Fx fi.io (L2.start d.N vs) σ' → outSl fi.io ρ' = some os → Den K w (PP Z ρ' σ') H' v r → Q v H' := fun {ρ' σ' H' v} g r' f ho dv => by
        obtain ⟨q1, q2⟩ := ret_rel (vs := vs) r' ho hl fun i hi => (f i hi).trans (entry i hi)
        refine hQ v H' (outSl_at ho).1 ?_ q1 (dv.go (Go.sub fun a q => q.imp id (q2 a)))
        rw [est] at g
        exact ⟨fun a u e n => g.keep a u e fun q => n ((iff a).mp q), fun a q => (g.priv a (q2 a q)).imp (iff a).mp id, g.dom⟩
      refine ⟨Z, parSl fi.io xs ++ List.replicate (fi.slots - xs.length) .no, fl, by rw [est]; exact R1, e2, ?_⟩
      cases fl with
      | nx ρ' =>
        obtain ⟨os', e3, e4⟩ := Option.map_eq_some_iff.mp (show (outSl fi.io ρ').map (fun os => (PyData.none, os)) = some (r, os) from hC)
        cases e4
        exact fun σ' H' g r' f => fin g r' f e3 .non
      | rt dr ρ' =>
        obtain ⟨os', e3, e4⟩ := Option.map_eq_some_iff.mp (show (outSl fi.io ρ').map (fun os => (dr, os)) = some (r, os) from hC)
        cases e4
        exact fun v σ' H' g r' f dv => fin g r' f e3 dv
      | bk ρ' => cases hC
      | ct ρ' => cases hC
end
/-- no list among the module's objects -/
def noListK (K : PySem.W.Frag) : Bool := K.all fun p => match p.2.cls with
  | .type n => !(n == "list")
  | _ => true
theorem noList_rd {K : PySem.W.Frag} (nl : noListK K = true) {H : Hp} {a : Addr} {xs : List V} (h : SqL K H a xs) : Rd H a (.lst xs) := by
  rcases h with h | ⟨o, its, n, hk, hc, _⟩
  · exact h
  · obtain ⟨c', hm⟩ : ∃ b, (b, o) ∈ K := by
      have : ∀ (K : List (Addr × Obj)), K.lookup a = some o → ∃ b, (b, o) ∈ K := by
        intro K
        induction K with
        | nil => intro h; cases h
        | cons p r ih =>
          intro h
          obtain ⟨b, x⟩ := p
          rw [List.lookup_cons] at h
          split at h
          · cases h; exact ⟨b, List.mem_cons_self⟩
          · obtain ⟨b', hb⟩ := ih h
            exact ⟨b', List.mem_cons_of_mem _ hb⟩
      exact this K hk
    have := List.all_eq_true.mp nl _ hm
    simp only [hc] at this
    simp at this
theorem den_script {K : PySem.W.Frag} {w : World} {P : Addr → Prop} {H : Hp} : ∀ ns : List Int, DenL K w P H (ns.map V.int) (ns.map .int)
  | [] => .nil
  | n :: ns => .cons (.int n) (den_script ns)
/-- what the law's def promises -/
def spLaw (K : PySem.W.Frag) : Sp := fun vs H Q _ => ∃ (a : Addr) (ns : List Int), vs = [.ref a] ∧ SqL K H a (ns.map V.int) ∧ ns.length ≤ 63 ∧ ∀ H', Q (.bl true) H'
theorem law_sp {K : PySem.W.Frag} {w : World} {io : List Bool} {f : Nat} {C : Call} (hio : io = [false]) (nl : noListK K = true) (ev : ∀ ns : List Int, ns.length ≤ 63 → C f [.list (ns.map .int)] = some (.bool true, [])) : ∀ vs H Q E, spLaw K vs H Q E → spOf K w io f C vs H Q E := by
  subst hio
  rintro vs H Q E ⟨a, ns, rfl, hS, hl, q⟩
  have rd := noList_rd nl hS
  refine ⟨fun _ => False, [.list (ns.map .int)], .bool true, [], rfl, rfl, ⟨rfl, fun i d h => ?_, fun i d h => ?_, fun i j a d e h => ?_, fun _ h => h.elim⟩, ev ns hl, fun v H' _ _ _ dv => ?_⟩
  · cases i with
    | zero =>
      cases (show some (Sl.sh (.list (ns.map .int))) = some (Sl.sh d) from h)
      refine ⟨.ref a, rfl, .lst (fun z => ?_) rd (den_script ns)⟩
      rcases z with z | ⟨j, e, z, _⟩
      · exact z
      · cases j with
        | zero => cases (show some (Sl.sh (.list (ns.map .int))) = some (Sl.ow e) from z)
        | succ j => simp [parSl] at z
    | succ i => simp [parSl] at h
  · cases i with
    | zero => cases (show some (Sl.sh (.list (ns.map .int))) = some (Sl.ow d) from h)
    | succ i => simp [parSl] at h
  · cases i with
    | zero => cases (show some (Sl.sh (.list (ns.map .int))) = some (Sl.ow d) from h)
    | succ i => simp [parSl] at h
  · cases dv
    exact q H'
end DV
end

section
/-! the plain machine in use: rules for the simplifier -/
namespace DV
open PySem
@[simp] theorem getSh_z (d : D) (r : Ro) : getSh (.sh d :: r) 0 = some d := rfl
@[simp] theorem getSh_s (x : Sl) (r : Ro) (i : Nat) : getSh (x :: r) (i + 1) = getSh r i := by unfold getSh; rw [List.getElem?_cons_succ]
@[simp] theorem getOw_z (d : D) (r : Ro) : getOw (.ow d :: r) 0 = some d := rfl
@[simp] theorem getOw_s (x : Sl) (r : Ro) (i : Nat) : getOw (x :: r) (i + 1) = getOw r i := by unfold getOw; rw [List.getElem?_cons_succ]
@[simp] theorem getAny_z1 (d : D) (r : Ro) : getAny (.sh d :: r) 0 = some d := rfl
@[simp] theorem getAny_z2 (d : D) (r : Ro) : getAny (.ow d :: r) 0 = some d := rfl
@[simp] theorem getAny_s (x : Sl) (r : Ro) (i : Nat) : getAny (x :: r) (i + 1) = getAny r i := by unfold getAny; rw [List.getElem?_cons_succ]
section
variable (C : Call)
@[simp] theorem ev_con (c : D) (ρ : Ro) : evE C (.con c) ρ = some (c, ρ) := rfl
@[simp] theorem ev_glb (c : D) (ρ : Ro) : evE C (.glb c) ρ = some (c, ρ) := rfl
@[simp] theorem ev_var (i : Nat) (ρ : Ro) : evE C (.var i) ρ = (getSh ρ i).map fun d => (d, ρ) := rfl
@[simp] theorem ev_esc (i : Nat) (ρ : Ro) : evE C (.esc i) ρ = (getAny ρ i).map fun d => (d, ρ.set i (.sh d)) := rfl
@[simp] theorem ev_tup (es : IEs) (ρ : Ro) : evE C (.tup es) ρ = (evOps C es ρ).map fun p => (.tuple p.1, p.2) := rfl
@[simp] theorem ev_lst (es : IEs) (ρ : Ro) : evE C (.lst es) ρ = (evOps C es ρ).map fun p => (.list p.1, p.2) := rfl
@[simp] theorem ev_dic (es : IEs) (ρ : Ro) : evE C (.dic es) ρ = (evOps C es ρ).bind fun p => (pairUp p.1).bind fun ps => if ps.length ≤ 15 && ps.all (fun q => (atomK q.1).isSome) then (dputs [] ps).map fun kvs => (.dict kvs, p.2) else none := rfl
@[simp] theorem ev_prim (p : Pr) (es : IEs) (ρ : Ro) : evE C (.prim p es) ρ = (evOps C es ρ).bind fun q => (primF p q.1).map fun d => (d, q.2) := rfl
@[simp] theorem ev_not (e : IE) (ρ : Ro) : evE C (.not e) ρ = (evE C e ρ).bind fun p => (truthF p.1).map fun k => (.bool (!k), p.2) := rfl
@[simp] theorem ev_and (a b : IE) (ρ : Ro) : evE C (.and a b) ρ = (evE C a ρ).bind fun p => (truthF p.1).bind fun k => if k then evE C b p.2 else some p := rfl
@[simp] theorem ev_or (a b : IE) (ρ : Ro) : evE C (.or a b) ρ = (evE C a ρ).bind fun p => (truthF p.1).bind fun k => if k then some p else evE C b p.2 := rfl
@[simp] theorem ev_ife (c a b : IE) (ρ : Ro) : evE C (.ife c a b) ρ = (evE C c ρ).bind fun p => (truthF p.1).bind fun k => if k then evE C a p.2 else evE C b p.2 := rfl
@[simp] theorem ev_call (f : Nat) (es : IEs) (ρ : Ro) : evE C (.call f es) ρ = (evOps C es ρ).bind fun p => (C f p.1).bind fun r => if hasOwn es && (!noMut r.1 || !(ioS es).isEmpty) then none else (putIo (ioS es) r.2 p.2).map fun ρ' => (r.1, ρ') := rfl
@[simp] theorem ev_mut (m : Mu) (i : Nat) (es : IEs) (ρ : Ro) : evE C (.mut m i es) ρ = (getOw ρ i).bind fun c0 => (evOps C es ρ).bind fun p => (getOw p.2 i).bind fun c => if kindD c0 = kindD c then (mutF m c p.1).map fun r => (r.2, p.2.set i (.ow r.1)) else none := rfl
@[simp] theorem ev_chain (o1 o2 : CmpOp) (a b c : IE) (ρ : Ro) : evE C (.chain o1 o2 a b c) ρ = (evE C a ρ).bind fun p => (evE C b p.2).bind fun q => (cmpB o1 p.1 q.1).bind fun k =>
      if k then (evE C c q.2).bind fun r => (cmpB o2 q.1 r.1).map fun k' => (.bool k', r.2) else some (.bool false, q.2) := rfl
@[simp] theorem ops_nil (ρ : Ro) : evOps C .nil ρ = some ([], ρ) := rfl
@[simp] theorem ops_own (i : Nat) (es : IEs) (ρ : Ro) : evOps C (.cons (.own i) es) ρ = (getAny ρ i).bind fun d0 => (evOps C es ρ).bind fun p => (getAny p.2 i).bind fun d => if kindD d0 = kindD d then some (d :: p.1, p.2) else none := rfl
@[simp] theorem ops_io (i : Nat) (es : IEs) (ρ : Ro) : evOps C (.cons (.io i) es) ρ = (getOw ρ i).bind fun _ => (evOps C es ρ).bind fun p => (getOw p.2 i).map fun d => (d :: p.1, p.2) := rfl
@[simp] theorem ops_con (c : D) (es : IEs) (ρ : Ro) : evOps C (.cons (.con c) es) ρ = (evE C (.con c) ρ).bind fun p => (evOps C es p.2).map fun q => (p.1 :: q.1, q.2) := rfl
@[simp] theorem io_con (c : D) (es : IEs) : ioS (.cons (.con c) es) = ioS es := rfl
@[simp] theorem ho_con (c : D) (es : IEs) : hasOwn (.cons (.con c) es) = hasOwn es := rfl
@[simp] theorem ops_glb (c : D) (es : IEs) (ρ : Ro) : evOps C (.cons (.glb c) es) ρ = (evE C (.glb c) ρ).bind fun p => (evOps C es p.2).map fun q => (p.1 :: q.1, q.2) := rfl
@[simp] theorem io_glb (c : D) (es : IEs) : ioS (.cons (.glb c) es) = ioS es := rfl
@[simp] theorem ho_glb (c : D) (es : IEs) : hasOwn (.cons (.glb c) es) = hasOwn es := rfl
@[simp] theorem ops_var (i : Nat) (es : IEs) (ρ : Ro) : evOps C (.cons (.var i) es) ρ = (evE C (.var i) ρ).bind fun p => (evOps C es p.2).map fun q => (p.1 :: q.1, q.2) := rfl
@[simp] theorem io_var (i : Nat) (es : IEs) : ioS (.cons (.var i) es) = ioS es := rfl
@[simp] theorem ho_var (i : Nat) (es : IEs) : hasOwn (.cons (.var i) es) = hasOwn es := rfl
@[simp] theorem ops_esc (i : Nat) (es : IEs) (ρ : Ro) : evOps C (.cons (.esc i) es) ρ = (evE C (.esc i) ρ).bind fun p => (evOps C es p.2).map fun q => (p.1 :: q.1, q.2) := rfl
@[simp] theorem io_esc (i : Nat) (es : IEs) : ioS (.cons (.esc i) es) = ioS es := rfl
@[simp] theorem ho_esc (i : Nat) (es : IEs) : hasOwn (.cons (.esc i) es) = hasOwn es := rfl
@[simp] theorem ops_tup (fs : IEs) (es : IEs) (ρ : Ro) : evOps C (.cons (.tup fs) es) ρ = (evE C (.tup fs) ρ).bind fun p => (evOps C es p.2).map fun q => (p.1 :: q.1, q.2) := rfl
@[simp] theorem io_tup (fs : IEs) (es : IEs) : ioS (.cons (.tup fs) es) = ioS es := rfl
@[simp] theorem ho_tup (fs : IEs) (es : IEs) : hasOwn (.cons (.tup fs) es) = hasOwn es := rfl
@[simp] theorem ops_lst (fs : IEs) (es : IEs) (ρ : Ro) : evOps C (.cons (.lst fs) es) ρ = (evE C (.lst fs) ρ).bind fun p => (evOps C es p.2).map fun q => (p.1 :: q.1, q.2) := rfl
@[simp] theorem io_lst (fs : IEs) (es : IEs) : ioS (.cons (.lst fs) es) = ioS es := rfl
@[simp] theorem ho_lst (fs : IEs) (es : IEs) : hasOwn (.cons (.lst fs) es) = hasOwn es := rfl
@[simp] theorem ops_dic (fs : IEs) (es : IEs) (ρ : Ro) : evOps C (.cons (.dic fs) es) ρ = (evE C (.dic fs) ρ).bind fun p => (evOps C es p.2).map fun q => (p.1 :: q.1, q.2) := rfl
@[simp] theorem io_dic (fs : IEs) (es : IEs) : ioS (.cons (.dic fs) es) = ioS es := rfl
@[simp] theorem ho_dic (fs : IEs) (es : IEs) : hasOwn (.cons (.dic fs) es) = hasOwn es := rfl
@[simp] theorem ops_prim (p : Pr) (fs : IEs) (es : IEs) (ρ : Ro) : evOps C (.cons (.prim p fs) es) ρ = (evE C (.prim p fs) ρ).bind fun p => (evOps C es p.2).map fun q => (p.1 :: q.1, q.2) := rfl
@[simp] theorem io_prim (p : Pr) (fs : IEs) (es : IEs) : ioS (.cons (.prim p fs) es) = ioS es := rfl
@[simp] theorem ho_prim (p : Pr) (fs : IEs) (es : IEs) : hasOwn (.cons (.prim p fs) es) = hasOwn es := rfl
@[simp] theorem ops_not (a : IE) (es : IEs) (ρ : Ro) : evOps C (.cons (.not a) es) ρ = (evE C (.not a) ρ).bind fun p => (evOps C es p.2).map fun q => (p.1 :: q.1, q.2) := rfl
@[simp] theorem io_not (a : IE) (es : IEs) : ioS (.cons (.not a) es) = ioS es := rfl
@[simp] theorem ho_not (a : IE) (es : IEs) : hasOwn (.cons (.not a) es) = hasOwn es := rfl
@[simp] theorem ops_and (a b : IE) (es : IEs) (ρ : Ro) : evOps C (.cons (.and a b) es) ρ = (evE C (.and a b) ρ).bind fun p => (evOps C es p.2).map fun q => (p.1 :: q.1, q.2) := rfl
@[simp] theorem io_and (a b : IE) (es : IEs) : ioS (.cons (.and a b) es) = ioS es := rfl
@[simp] theorem ho_and (a b : IE) (es : IEs) : hasOwn (.cons (.and a b) es) = hasOwn es := rfl
@[simp] theorem ops_or (a b : IE) (es : IEs) (ρ : Ro) : evOps C (.cons (.or a b) es) ρ = (evE C (.or a b) ρ).bind fun p => (evOps C es p.2).map fun q => (p.1 :: q.1, q.2) := rfl
@[simp] theorem io_or (a b : IE) (es : IEs) : ioS (.cons (.or a b) es) = ioS es := rfl
@[simp] theorem ho_or (a b : IE) (es : IEs) : hasOwn (.cons (.or a b) es) = hasOwn es := rfl
@[simp] theorem ops_ife (a b c : IE) (es : IEs) (ρ : Ro) : evOps C (.cons (.ife a b c) es) ρ = (evE C (.ife a b c) ρ).bind fun p => (evOps C es p.2).map fun q => (p.1 :: q.1, q.2) := rfl
@[simp] theorem io_ife (a b c : IE) (es : IEs) : ioS (.cons (.ife a b c) es) = ioS es := rfl
@[simp] theorem ho_ife (a b c : IE) (es : IEs) : hasOwn (.cons (.ife a b c) es) = hasOwn es := rfl
@[simp] theorem ops_chain (o1 o2 : CmpOp) (a b c : IE) (es : IEs) (ρ : Ro) : evOps C (.cons (.chain o1 o2 a b c) es) ρ = (evE C (.chain o1 o2 a b c) ρ).bind fun p => (evOps C es p.2).map fun q => (p.1 :: q.1, q.2) := rfl
@[simp] theorem io_chain (o1 o2 : CmpOp) (a b c : IE) (es : IEs) : ioS (.cons (.chain o1 o2 a b c) es) = ioS es := rfl
@[simp] theorem ho_chain (o1 o2 : CmpOp) (a b c : IE) (es : IEs) : hasOwn (.cons (.chain o1 o2 a b c) es) = hasOwn es := rfl
@[simp] theorem ops_call (f : Nat) (fs : IEs) (es : IEs) (ρ : Ro) : evOps C (.cons (.call f fs) es) ρ = (evE C (.call f fs) ρ).bind fun p => (evOps C es p.2).map fun q => (p.1 :: q.1, q.2) := rfl
@[simp] theorem io_call (f : Nat) (fs : IEs) (es : IEs) : ioS (.cons (.call f fs) es) = ioS es := rfl
@[simp] theorem ho_call (f : Nat) (fs : IEs) (es : IEs) : hasOwn (.cons (.call f fs) es) = hasOwn es := rfl
@[simp] theorem ops_mut (m : Mu) (i : Nat) (fs : IEs) (es : IEs) (ρ : Ro) : evOps C (.cons (.mut m i fs) es) ρ = (evE C (.mut m i fs) ρ).bind fun p => (evOps C es p.2).map fun q => (p.1 :: q.1, q.2) := rfl
@[simp] theorem io_mut (m : Mu) (i : Nat) (fs : IEs) (es : IEs) : ioS (.cons (.mut m i fs) es) = ioS es := rfl
@[simp] theorem ho_mut (m : Mu) (i : Nat) (fs : IEs) (es : IEs) : hasOwn (.cons (.mut m i fs) es) = hasOwn es := rfl
@[simp] theorem ops_comp (vs : List Nat) (t : Tg) (it : It) (cs : IEs) (a : IE) (es : IEs) (ρ : Ro) : evOps C (.cons (.comp vs t it cs a) es) ρ = (evE C (.comp vs t it cs a) ρ).bind fun p => (evOps C es p.2).map fun q => (p.1 :: q.1, q.2) := rfl
@[simp] theorem io_comp (vs : List Nat) (t : Tg) (it : It) (cs : IEs) (a : IE) (es : IEs) : ioS (.cons (.comp vs t it cs a) es) = ioS es := rfl
@[simp] theorem ho_comp (vs : List Nat) (t : Tg) (it : It) (cs : IEs) (a : IE) (es : IEs) : hasOwn (.cons (.comp vs t it cs a) es) = hasOwn es := rfl
@[simp] theorem ops_comp2 (vs : List Nat) (t : Tg) (it : It) (cs : IEs) (vs1 : List Nat) (t1 : Tg) (it1 : It) (cs1 : IEs) (a : IE) (es : IEs) (ρ : Ro) : evOps C (.cons (.comp2 vs t it cs vs1 t1 it1 cs1 a) es) ρ = (evE C (.comp2 vs t it cs vs1 t1 it1 cs1 a) ρ).bind fun p => (evOps C es p.2).map fun q => (p.1 :: q.1, q.2) := rfl
@[simp] theorem io_comp2 (vs : List Nat) (t : Tg) (it : It) (cs : IEs) (vs1 : List Nat) (t1 : Tg) (it1 : It) (cs1 : IEs) (a : IE) (es : IEs) : ioS (.cons (.comp2 vs t it cs vs1 t1 it1 cs1 a) es) = ioS es := rfl
@[simp] theorem ho_comp2 (vs : List Nat) (t : Tg) (it : It) (cs : IEs) (vs1 : List Nat) (t1 : Tg) (it1 : It) (cs1 : IEs) (a : IE) (es : IEs) : hasOwn (.cons (.comp2 vs t it cs vs1 t1 it1 cs1 a) es) = hasOwn es := rfl
@[simp] theorem io_nil : ioS .nil = [] := rfl
@[simp] theorem io_io (i : Nat) (es : IEs) : ioS (.cons (.io i) es) = i :: ioS es := rfl
@[simp] theorem io_own (i : Nat) (es : IEs) : ioS (.cons (.own i) es) = ioS es := rfl
@[simp] theorem ho_nil : hasOwn .nil = false := rfl
@[simp] theorem ho_io (i : Nat) (es : IEs) : hasOwn (.cons (.io i) es) = hasOwn es := rfl
@[simp] theorem ho_own (i : Nat) (es : IEs) : hasOwn (.cons (.own i) es) = true := rfl
@[simp] theorem putIo_nil (ρ : Ro) : putIo [] [] ρ = some ρ := rfl
@[simp] theorem putIo_cons (i : Nat) (is : List Nat) (d : D) (ds : List D) (ρ : Ro) : putIo (i :: is) (d :: ds) ρ = putIo is ds (ρ.set i (.ow d)) := rfl
@[simp] theorem it_val (e : IE) (ρ : Ro) : evI C (.val e) ρ = (evE C e ρ).bind fun p => (iterD p.1).map fun xs => (xs, p.2) := rfl
@[simp] theorem it_rng (es : IEs) (ρ : Ro) : evI C (.rng es) ρ = (evOps C es ρ).bind fun p => (rngF p.1).map fun xs => (xs, p.2) := rfl
@[simp] theorem it_zip (a b : IE) (ρ : Ro) : evI C (.zip a b) ρ = (evE C a ρ).bind fun p => (evE C b p.2).bind fun q => (seqOf p.1).bind fun xs => (seqOf q.1).bind fun ys => if kindD p.1 = kindD q.1 then some (zipD xs ys, q.2) else none := rfl
@[simp] theorem it_enum (e : IE) (ρ : Ro) : evI C (.enum e) ρ = (evE C e ρ).bind fun p => (lstOf p.1).map fun xs => (enumD xs, p.2) := rfl
@[simp] theorem cs_nil' (ρ : Ro) : evCs C .nil ρ = some (true, ρ) := rfl
@[simp] theorem cs_one' (c : IE) (ρ : Ro) : evCs C (.cons c .nil) ρ = (evE C c ρ).bind fun p => (truthF p.1).map fun k => (k, p.2) := rfl
@[simp] theorem ex_nil (ρ : Ro) : exSs C .nil ρ = some (.nx ρ) := rfl
theorem ex_cons (s : IS) (ss : ISs) (ρ : Ro) : exSs C (.cons s ss) ρ = (exS C s ρ).bind fun r => match r with
    | .nx ρ' => exSs C ss ρ'
    | r => some r := rfl
/-- one statement, then the rest -/
theorem ex_nx {s : IS} {ss : ISs} {ρ ρ' : Ro} {r : Option Fl} (h : exS C s ρ = some (.nx ρ')) (h2 : exSs C ss ρ' = r) : exSs C (.cons s ss) ρ = r := by rw [ex_cons, h]; exact h2
theorem ex_rt {s : IS} {ss : ISs} {ρ ρ' : Ro} {d : D} (h : exS C s ρ = some (.rt d ρ')) : exSs C (.cons s ss) ρ = some (.rt d ρ') := by rw [ex_cons, h]; rfl
@[simp] theorem ex_asg (i : Nat) (own : Bool) (e : IE) (ρ : Ro) : exS C (.asg (.nm i) own e) ρ = (evE C e ρ).map fun p => .nx (p.2.set i (mkSl own p.1)) := rfl
@[simp] theorem ex_asgT (ts : Tgs) (own : Bool) (e : IE) (ρ : Ro) : exS C (.asg (.tp ts) own e) ρ = (evE C e ρ).bind fun p => (asgT (.tp ts) p.1 p.2).map .nx := rfl
@[simp] theorem ex_par (ts : List (Nat × Bool)) (es : IEs) (ρ : Ro) : exS C (.par ts es) ρ = (evOps C es ρ).bind fun p => (parPut ts p.1 p.2).map .nx := rfl
@[simp] theorem ex_aug (i : Nat) (o : Operator) (e : IE) (ρ : Ro) : exS C (.aug i o e) ρ = (getAny ρ i).bind fun _ => (evE C e ρ).bind fun p => (getSh p.2 i).bind fun x => (augF o x p.1).map fun d => .nx (p.2.set i (.sh d)) := rfl
@[simp] theorem ex_setIx (i : Nat) (k e : IE) (ρ : Ro) : exS C (.setIx i k e) ρ = (evE C e ρ).bind fun p => (getOw p.2 i).bind fun _ => (evE C k p.2).bind fun q => (getOw q.2 i).bind fun c => (setIxF c q.1 p.1).map fun c' => .nx (q.2.set i (.ow c')) := rfl
@[simp] theorem ex_augIx (i : Nat) (k : IE) (o : Operator) (e : IE) (ρ : Ro) : exS C (.augIx i k o e) ρ = (getOw ρ i).bind fun _ => (evE C k ρ).bind fun p => (getOw p.2 i).bind fun c => (ixF c p.1).bind fun old => (evE C e p.2).bind fun q => (augF o old q.1).bind fun new =>
      (getOw q.2 i).bind fun c2 => (setIxF c2 p.1 new).map fun c' => .nx (q.2.set i (.ow c')) := rfl
@[simp] theorem ex_exp (e : IE) (ρ : Ro) : exS C (.exp e) ρ = (evE C e ρ).map fun p => .nx p.2 := rfl
@[simp] theorem ex_ret (e : IE) (ρ : Ro) : exS C (.ret e) ρ = (evE C e ρ).map fun p => .rt p.1 p.2 := rfl
@[simp] theorem ex_retN (ρ : Ro) : exS C .retN ρ = some (.rt .none ρ) := rfl
@[simp] theorem ex_iff (c : IE) (a b : ISs) (ρ : Ro) : exS C (.iff c a b) ρ = (evE C c ρ).bind fun p => (truthF p.1).bind fun k => if k then exSs C a p.2 else exSs C b p.2 := rfl
@[simp] theorem ex_brk (ρ : Ro) : exS C .brk ρ = some (.bk ρ) := rfl
@[simp] theorem ex_cont (ρ : Ro) : exS C .cont ρ = some (.ct ρ) := rfl
@[simp] theorem ex_pass (ρ : Ro) : exS C .pass ρ = some (.nx ρ) := rfl
theorem ex_for (t : Tg) (it : It) (b : ISs) (ρ : Ro) : exS C (.for_ t it b) ρ = (evI C it ρ).bind fun p => forLoop (forF C t b) p.1 p.2 := rfl
@[simp] theorem asg_nm (i : Nat) (d : D) (ρ : Ro) : asgT (.nm i) d ρ = some (ρ.set i (.sh d)) := rfl
@[simp] theorem asg_tp (ts : Tgs) (ds : List D) (ρ : Ro) : asgT (.tp ts) (.tuple ds) ρ = asgTs ts ds ρ := rfl
@[simp] theorem asgs_nil (ρ : Ro) : asgTs .nil [] ρ = some ρ := rfl
@[simp] theorem asgs_cons (t : Tg) (ts : Tgs) (d : D) (ds : List D) (ρ : Ro) : asgTs (.cons t ts) (d :: ds) ρ = (asgT t d ρ).bind fun ρ1 => asgTs ts ds ρ1 := rfl
@[simp] theorem parPut_nil (ρ : Ro) : parPut [] [] ρ = some ρ := rfl
@[simp] theorem parPut_cons (t : Nat × Bool) (ts : List (Nat × Bool)) (d : D) (ds : List D) (ρ : Ro) : parPut (t :: ts) (d :: ds) ρ = parPut ts ds (ρ.set t.1 (mkSl t.2 d)) := rfl
end
@[simp] theorem mkSl_f (d : D) : mkSl false d = .sh d := rfl
@[simp] theorem mkSl_l (ds : List D) : mkSl true (.list ds) = .ow (.list ds) := rfl
@[simp] theorem mkSl_d (ds : List (D × D)) : mkSl true (.dict ds) = .ow (.dict ds) := rfl

@[simp] theorem pr_bin (o : Operator) (a b : D) : primF (.bin o) [a, b] = binF o a b := rfl
@[simp] theorem pr_cmp (o : CmpOp) (a b : D) : primF (.cmp o) [a, b] = (cmpB o a b).map .bool := rfl
@[simp] theorem pr_neg (a : D) : primF .neg [a] = negF a := rfl
@[simp] theorem pr_len (a : D) : primF .len [a] = lenF a := rfl
@[simp] theorem pr_abs (a : D) : primF .abs [a] = absF a := rfl
@[simp] theorem pr_int (a : D) : primF .int [a] = intF a := rfl
@[simp] theorem pr_list (a : D) : primF .list [a] = (seqOf a).map .list := rfl
@[simp] theorem pr_tuple (a : D) : primF .tuple [a] = (seqOf a).map .tuple := rfl
@[simp] theorem pr_sorted (a : List D) : primF .sorted [.list a] = sortedF a := rfl
@[simp] theorem pr_sum (a : D) : primF .sum [a] = (seqOf a).bind fun xs => (intsOf xs).map fun ns => .int ns.sum := rfl
@[simp] theorem pr_max2 (a b : Int) : primF .max2 [.int a, .int b] = some (.int (if b > a then b else a)) := rfl
@[simp] theorem pr_min2 (a b : Int) : primF .min2 [.int a, .int b] = some (.int (if b < a then b else a)) := rfl
@[simp] theorem pr_max1 (a : D) : primF .max1 [a] = (seqOf a).bind (bestF fun y x => W.dataLt x y) := rfl
@[simp] theorem pr_min1 (a : D) : primF .min1 [a] = (seqOf a).bind (bestF fun y x => W.dataLt y x) := rfl
@[simp] theorem pr_all (a : D) : primF .all [a] = (seqOf a).bind fun xs => (boolsOf xs).map fun bs => .bool (bs.all id) := rfl
@[simp] theorem pr_any (a : D) : primF .any [a] = (seqOf a).bind fun xs => (boolsOf xs).map fun bs => .bool (bs.any id) := rfl
@[simp] theorem pr_ix (a i : D) : primF .ix [a, i] = ixF a i := rfl
@[simp] theorem pr_sl00 (a : D) : primF (.sl false false) [a] = slF none none a := rfl
@[simp] theorem pr_sl10 (a l : D) : primF (.sl true false) [a, l] = (partOf l).bind fun l => slF l none a := rfl
@[simp] theorem pr_sl01 (a u : D) : primF (.sl false true) [a, u] = (partOf u).bind fun u => slF none u a := rfl
@[simp] theorem pr_sl11 (a l u : D) : primF (.sl true true) [a, l, u] = (partOf l).bind fun l => (partOf u).bind fun u => slF l u a := rfl
@[simp] theorem pr_st00 (a : D) (k : Int) : primF (.slst false false) [a, .int k] = slstF none none k a := rfl
@[simp] theorem pr_st10 (a l : D) (k : Int) : primF (.slst true false) [a, l, .int k] = (partOf l).bind fun l => slstF l none k a := rfl
@[simp] theorem pr_st01 (a u : D) (k : Int) : primF (.slst false true) [a, u, .int k] = (partOf u).bind fun u => slstF none u k a := rfl
@[simp] theorem pr_st11 (a l u : D) (k : Int) : primF (.slst true true) [a, l, u, .int k] = (partOf l).bind fun l => (partOf u).bind fun u => slstF l u k a := rfl
@[simp] theorem pr_join (t : Str) (a : D) : primF .join [.str t, a] = (seqOf a).bind fun xs => (strsOf xs).bind (joinF t) := rfl
@[simp] theorem pr_index (a : List D) (d : D) : primF .index [.list a, d] = indexF a d := rfl
@[simp] theorem pr_count (a : List D) (d : D) : primF .count [.list a, d] = countF a d := rfl
@[simp] theorem pr_isi (t : String) (a : D) : primF (.isi t) [a] = isiF t a := rfl
@[simp] theorem pr_truth (a : D) : primF .truth [a] = (truthF a).map .bool := rfl
@[simp] theorem pr_get1 (a : List (D × D)) (k : D) : primF .get1 [.dict a, k] = if keyOk a k then some ((dget a k).getD .none) else none := rfl
@[simp] theorem pr_get2 (a : List (D × D)) (k d : D) : primF .get2 [.dict a, k, d] = if keyOk a k && !isCont d then some ((dget a k).getD d) else none := rfl
@[simp] theorem pr_isN (a : D) : primF .isN [a] = some (.bool (match a with | .none => true | _ => false)) := rfl
@[simp] theorem pr_notN (a : D) : primF .notN [a] = some (.bool (match a with | .none => false | _ => true)) := rfl
@[simp] theorem w_s0 (a b : D) : binF .Add a b = addF a b := rfl
@[simp] theorem w_s1 (a b : D) : binF .Sub a b = subF a b := rfl
@[simp] theorem w_s2 (a b : D) : binF .Mult a b = mulF a b := rfl
@[simp] theorem w_s3 (a b : D) : binF .FloorDiv a b = fdivF a b := rfl
@[simp] theorem w_s4 (a b : D) : binF .Mod a b = modF a b := rfl
@[simp] theorem w_s5 (a b : D) : binF .Pow a b = powF a b := rfl
@[simp] theorem w_s6 (i j : Int) : addF (.int i) (.int j) = some (.int (i + j)) := rfl
@[simp] theorem w_s7 (i j : Int) : subF (.int i) (.int j) = some (.int (i - j)) := rfl
@[simp] theorem w_s8 (i j : Int) : mulF (.int i) (.int j) = if small i || small j then some (.int (i * j)) else none := rfl
@[simp] theorem w_s9 (i j : Int) : modF (.int i) (.int j) = if j = 0 then none else some (.int (i.fmod j)) := rfl
@[simp] theorem w_s10 (i j : Int) : fdivF (.int i) (.int j) = if divOk j then some (.int (i.fdiv j)) else none := rfl
@[simp] theorem w_s11 (i j : Str) : addF (.str i) (.str j) = if i.length + j.length ≤ sizeLine then some (.str (i ++ j)) else none := rfl
@[simp] theorem w_s12 (i j : List D) : addF (.list i) (.list j) = if i.length + j.length ≤ sizeLine then some (.list (i ++ j)) else none := rfl
@[simp] theorem w_s13 (i j : List D) : addF (.tuple i) (.tuple j) = if i.length + j.length ≤ sizeLine then some (.tuple (i ++ j)) else none := rfl
@[simp] theorem w_s14 (i j : Int) : augF .Add (.int i) (.int j) = some (.int (i + j)) := rfl
@[simp] theorem w_s15 (i j : Int) : augF .Sub (.int i) (.int j) = some (.int (i - j)) := rfl
@[simp] theorem w_s16 (i j : Str) : augF .Add (.str i) (.str j) = if i.length + j.length ≤ sizeLine then some (.str (i ++ j)) else none := rfl
@[simp] theorem w_s17 (a b : D) : cmpB .Eq a b = eqF a b := rfl
@[simp] theorem w_s18 (a b : D) : cmpB .NotEq a b = (eqF a b).map (!·) := rfl
@[simp] theorem w_s19 (a b : D) : cmpB .Lt a b = ltF a b := rfl
@[simp] theorem w_s20 (a b : D) : cmpB .LtE a b = leF a b := rfl
@[simp] theorem w_s21 (a b : D) : cmpB .In a b = inF a b := rfl
@[simp] theorem w_s22 (a b : D) : cmpB .NotIn a b = (inF a b).map (!·) := rfl
@[simp] theorem w_s23 (i : Int) : negF (.int i) = some (.int (-i)) := rfl
@[simp] theorem w_s24 (i : Int) : absF (.int i) = some (.int (if i < 0 then -i else i)) := rfl
@[simp] theorem w_s25 (i : Int) : intF (.int i) = some (.int i) := rfl
@[simp] theorem w_s26 (i : Bool) : intF (.bool i) = some (.int (if i then 1 else 0)) := rfl
@[simp] theorem w_s27 (i : List D) : lenF (.list i) = some (.int i.length) := rfl
@[simp] theorem w_s28 (i : List D) : lenF (.tuple i) = some (.int i.length) := rfl
@[simp] theorem w_s29 (i : Str) : lenF (.str i) = some (.int i.length) := rfl
@[simp] theorem w_s30 (i : List (D × D)) : lenF (.dict i) = some (.int i.length) := rfl
@[simp] theorem w_s31 (i : Bool) : truthF (.bool i) = some i := rfl
@[simp] theorem w_s32 (i : Int) : truthF (.int i) = some (i != 0) := rfl
@[simp] theorem w_s33 (i : List D) : truthF (.list i) = some (!i.isEmpty) := rfl
@[simp] theorem w_s34 (i : List D) : truthF (.tuple i) = some (!i.isEmpty) := rfl
@[simp] theorem w_s35 (i : Str) : truthF (.str i) = some (i.length != 0) := rfl
@[simp] theorem w_s36  : truthF .none = some false := rfl
@[simp] theorem w_s37 (i : List D) : seqOf (.list i) = some i := rfl
@[simp] theorem w_s38 (i : List D) : seqOf (.tuple i) = some i := rfl
@[simp] theorem w_s39 (i : List D) : lstOf (.list i) = some i := rfl
@[simp] theorem w_s40 (i : List D) : iterD (.list i) = some i := rfl
@[simp] theorem w_s41 (i : List D) : iterD (.tuple i) = some i := rfl
@[simp] theorem w_s42 (i : Int) : partOf (.int i) = some (some i) := rfl
@[simp] theorem w_s43 (i : List D) (l u : Option Int) : slF l u (.list i) = some (.list (cut i l u)) := rfl
@[simp] theorem w_s44 (i : List D) (l u : Option Int) : slF l u (.tuple i) = some (.tuple (cut i l u)) := rfl
@[simp] theorem w_s45 (i : Str) (l u : Option Int) : slF l u (.str i) = some (.str ⟨(cut i.cps.toList l u).toArray⟩) := rfl
@[simp] theorem w_s46 (i : List D) (k : Int) : ixF (.list i) (.int k) = L2.atI i k := rfl
@[simp] theorem w_s47 (i : List D) (k : Int) : ixF (.tuple i) (.int k) = L2.atI i k := rfl
@[simp] theorem w_s48 (i : Str) (k : Int) : ixF (.str i) (.int k) = (signAt i k).map .str := rfl
@[simp] theorem w_s49 (i : List D) (d : D) : mutF .append (.list i) [d] = if i.length < sizeLine then some (.list (i ++ [d]), .none) else none := rfl
@[simp] theorem w_s50 (i j : List D) : mutF .extend (.list i) [.list j] = if i.length + j.length ≤ sizeLine then some (.list (i ++ j), .none) else none := rfl
@[simp] theorem w_s51 (i : List D) : mutF .pop (.list i) [] = (L2.atI i (-1)).map fun d => (.list i.dropLast, d) := rfl
@[simp] theorem w_s52 (i : List D) (k : Int) (d : D) : setIxF (.list i) (.int k) d = (L2.ixN i.length k).map fun j => .list (i.set j d) := rfl
@[simp] theorem w_s53  : kindD .none = 0 := rfl
@[simp] theorem w_s54 (i : Bool) : kindD (.bool i) = 1 := rfl
@[simp] theorem w_s55 (i : Int) : kindD (.int i) = 2 := rfl
@[simp] theorem w_s56 (i : Str) : kindD (.str i) = 3 := rfl
@[simp] theorem w_s57 (i : List D) : kindD (.list i) = 4 := rfl
@[simp] theorem w_s58 (i : List D) : kindD (.tuple i) = 5 := rfl
@[simp] theorem w_s59 (i : List (D × D)) : kindD (.dict i) = 6 := rfl
@[simp] theorem w_s60 (i : Int) : rngF [.int i] = if rngIn i then some (rangeI 0 i.toNat 1) else none := rfl
@[simp] theorem w_s61 (i j : Int) : rngF [.int i, .int j] = if rngIn i && rngIn j then some (rangeI i (j - i).toNat 1) else none := rfl
@[simp] theorem isi_int_int (i : Int) : isiF "int" (.int i) = some (.bool true) := rfl
@[simp] theorem isi_int_bool (i : Bool) : isiF "int" (.bool i) = some (.bool true) := rfl
@[simp] theorem isi_int_str (i : Str) : isiF "int" (.str i) = some (.bool false) := rfl
@[simp] theorem isi_int_tuple (i : List D) : isiF "int" (.tuple i) = some (.bool false) := rfl
@[simp] theorem isi_int_list (i : List D) : isiF "int" (.list i) = some (.bool false) := rfl
@[simp] theorem isi_int_dict (i : List (D × D)) : isiF "int" (.dict i) = some (.bool false) := rfl
@[simp] theorem isi_int_none  : isiF "int" .none = some (.bool false) := rfl
@[simp] theorem isi_bool_int (i : Int) : isiF "bool" (.int i) = some (.bool false) := rfl
@[simp] theorem isi_bool_bool (i : Bool) : isiF "bool" (.bool i) = some (.bool true) := rfl
@[simp] theorem isi_bool_str (i : Str) : isiF "bool" (.str i) = some (.bool false) := rfl
@[simp] theorem isi_bool_tuple (i : List D) : isiF "bool" (.tuple i) = some (.bool false) := rfl
@[simp] theorem isi_bool_list (i : List D) : isiF "bool" (.list i) = some (.bool false) := rfl
@[simp] theorem isi_bool_dict (i : List (D × D)) : isiF "bool" (.dict i) = some (.bool false) := rfl
@[simp] theorem isi_bool_none  : isiF "bool" .none = some (.bool false) := rfl
@[simp] theorem isi_str_int (i : Int) : isiF "str" (.int i) = some (.bool false) := rfl
@[simp] theorem isi_str_bool (i : Bool) : isiF "str" (.bool i) = some (.bool false) := rfl
@[simp] theorem isi_str_str (i : Str) : isiF "str" (.str i) = some (.bool true) := rfl
@[simp] theorem isi_str_tuple (i : List D) : isiF "str" (.tuple i) = some (.bool false) := rfl
@[simp] theorem isi_str_list (i : List D) : isiF "str" (.list i) = some (.bool false) := rfl
@[simp] theorem isi_str_dict (i : List (D × D)) : isiF "str" (.dict i) = some (.bool false) := rfl
@[simp] theorem isi_str_none  : isiF "str" .none = some (.bool false) := rfl
@[simp] theorem isi_tuple_int (i : Int) : isiF "tuple" (.int i) = some (.bool false) := rfl
@[simp] theorem isi_tuple_bool (i : Bool) : isiF "tuple" (.bool i) = some (.bool false) := rfl
@[simp] theorem isi_tuple_str (i : Str) : isiF "tuple" (.str i) = some (.bool false) := rfl
@[simp] theorem isi_tuple_tuple (i : List D) : isiF "tuple" (.tuple i) = some (.bool true) := rfl
@[simp] theorem isi_tuple_list (i : List D) : isiF "tuple" (.list i) = some (.bool false) := rfl
@[simp] theorem isi_tuple_dict (i : List (D × D)) : isiF "tuple" (.dict i) = some (.bool false) := rfl
@[simp] theorem isi_tuple_none  : isiF "tuple" .none = some (.bool false) := rfl
@[simp] theorem isi_list_int (i : Int) : isiF "list" (.int i) = some (.bool false) := rfl
@[simp] theorem isi_list_bool (i : Bool) : isiF "list" (.bool i) = some (.bool false) := rfl
@[simp] theorem isi_list_str (i : Str) : isiF "list" (.str i) = some (.bool false) := rfl
@[simp] theorem isi_list_tuple (i : List D) : isiF "list" (.tuple i) = some (.bool false) := rfl
@[simp] theorem isi_list_list (i : List D) : isiF "list" (.list i) = some (.bool true) := rfl
@[simp] theorem isi_list_dict (i : List (D × D)) : isiF "list" (.dict i) = some (.bool false) := rfl
@[simp] theorem isi_list_none  : isiF "list" .none = some (.bool false) := rfl
@[simp] theorem isi_dict_int (i : Int) : isiF "dict" (.int i) = some (.bool false) := rfl
@[simp] theorem isi_dict_bool (i : Bool) : isiF "dict" (.bool i) = some (.bool false) := rfl
@[simp] theorem isi_dict_str (i : Str) : isiF "dict" (.str i) = some (.bool false) := rfl
@[simp] theorem isi_dict_tuple (i : List D) : isiF "dict" (.tuple i) = some (.bool false) := rfl
@[simp] theorem isi_dict_list (i : List D) : isiF "dict" (.list i) = some (.bool false) := rfl
@[simp] theorem isi_dict_dict (i : List (D × D)) : isiF "dict" (.dict i) = some (.bool true) := rfl
@[simp] theorem isi_dict_none  : isiF "dict" .none = some (.bool false) := rfl
@[simp] theorem eqIIw (i j : Int) : eqF (.int i) (.int j) = some (decide (i = j)) := by
  have : PyData.eqv (.int i) (.int j) = decide (i = j) := by first | rfl | simp [PyData.eqv]
  rw [← this]; rfl
@[simp] theorem eqSSw (i j : Str) : eqF (.str i) (.str j) = some (decide (i = j)) := by
  have : PyData.eqv (.str i) (.str j) = decide (i = j) := by first | rfl | simp [PyData.eqv]
  rw [← this]; rfl
@[simp] theorem ordII (i j : Int) : ordB (.int i) (.int j) = true := rfl
@[simp] theorem ltIIw (i j : Int) : W.dataLt (.int i) (.int j) = decide (i < j) := W.dataLt_int i j
@[simp] theorem ltII2 (i j : Int) : ltF (.int i) (.int j) = some (decide (i < j)) := by unfold ltF; simp
@[simp] theorem leII2 (i j : Int) : leF (.int i) (.int j) = some (decide (i ≤ j)) := by
  unfold leF
  simp only [ordII, if_true, W.dataLt_int]
  by_cases h : i ≤ j
  · rw [decide_eq_true h, decide_eq_false (by omega)]; rfl
  · rw [decide_eq_false h, decide_eq_true (by omega)]; rfl
@[simp] theorem gtII2 (i j : Int) : cmpB .Gt (.int i) (.int j) = some (decide (j < i)) := by
  show (if ordB (.int i) (.int j) = true then some (W.dataLt (.int j) (.int i)) else none) = _
  rw [if_pos (ordII i j), W.dataLt_int]
@[simp] theorem geII2 (i j : Int) : cmpB .GtE (.int i) (.int j) = some (decide (j ≤ i)) := by
  show (if ordB (.int i) (.int j) = true then some (!W.dataLt (.int i) (.int j)) else none) = _
  rw [if_pos (ordII i j), W.dataLt_int]
  by_cases h : j ≤ i
  · rw [decide_eq_true h, decide_eq_false (by omega)]; rfl
  · rw [decide_eq_false h, decide_eq_true (by omega)]; rfl
end DV
end

section
/-! comprehensions and loops of the plain machine -/
namespace DV
open PySem
theorem back_wipe {ρ ρ' : Ro} {vs : List Nat} (h : wipeR ρ' vs = wipeR ρ vs) : back ρ ρ' vs = ρ := by
  have hl : ρ'.length = ρ.length := by rw [← wipeR_len (vs := vs), h, wipeR_len]
  apply List.ext_getElem?
  intro j
  by_cases hj : j ∈ vs
  · by_cases hs : j < ρ.length
    · obtain ⟨x, hx⟩ : ∃ x, (back ρ ρ' vs)[j]? = some x := ⟨_, List.getElem?_eq_getElem (by rw [back_len, hl]; exact hs)⟩
      rw [hx, back_in hj hx, List.getD_eq_getElem?_getD, List.getElem?_eq_getElem hs]
      rfl
    · rw [List.getElem?_eq_none (by rw [back_len, hl]; omega), List.getElem?_eq_none (by omega)]
  · rw [back_out hj, ← wipeR_out (ρ := ρ') hj, h, wipeR_out hj]
/-- the body of a comprehension, behind the wiping of its names -/
def bodyF (C : Call) (t : Tg) (cs : IEs) (elt : IE) (x : D) (ρ : Ro) : Option (List D × Ro) := (asgT t x ρ).bind fun ρ1 => (evCs C cs ρ1).bind fun q => if q.1 then (evE C elt q.2).map fun r => ([r.1], r.2) else some ([], q.2)
theorem comp_loop {f : D → Ro → Option (List D × Ro)} {vs : List Nat} {g : D → List D} : ∀ {xs : List D} {ρ : Ro}, (∀ x ∈ xs, ∀ ρ', wipeR ρ' vs = wipeR ρ vs → ∃ ρ'', f x ρ' = some (g x, ρ'') ∧ wipeR ρ'' vs = wipeR ρ vs) → ∃ ρ', compLoop f xs ρ = some (xs.flatMap g, ρ') ∧ wipeR ρ' vs = wipeR ρ vs
  | [], ρ, _ => ⟨ρ, rfl, rfl⟩
  | x :: xs, ρ, h => by
    obtain ⟨ρ1, e1, w1⟩ := h x List.mem_cons_self ρ rfl
    obtain ⟨ρ2, e2, w2⟩ := comp_loop (f := f) (vs := vs) (g := g) (xs := xs) (ρ := ρ1) fun y hy ρ' hw => by
      obtain ⟨ρ'', a, b⟩ := h y (List.mem_cons_of_mem _ hy) ρ' (hw.trans w1)
      exact ⟨ρ'', a, b.trans w1.symm⟩
    refine ⟨ρ2, ?_, w2.trans w1⟩
    show ((f x ρ).bind fun p => (compLoop f xs p.2).bind fun q => some (p.1 ++ q.1, q.2)) = _
    rw [e1]
    show ((compLoop f xs ρ1).bind fun q => some (g x ++ q.1, q.2)) = _
    rw [e2]
    rfl
/-- [elt for t in it if cs] that leaves the slots as they are -/
theorem comp_ev {C : Call} {vs : List Nat} {t : Tg} {it : It} {cs : IEs} {elt : IE} {ρ ρ1 : Ro} {xs : List D} (g : D → List D) (hi : evI C it ρ = some (xs, ρ1)) (no : noOw ρ1 vs = true) (hl : xs.length ≤ sizeLine)
    (hb : ∀ x ∈ xs, ∃ ρ'', bodyF C t cs elt x (wipeR ρ1 vs) = some (g x, ρ'') ∧ wipeR ρ'' vs = wipeR ρ1 vs) : evE C (.comp vs t it cs elt) ρ = some (.list (xs.flatMap g), ρ1) := by
  show ((evI C it ρ).bind fun p => if noOw p.2 vs then (fitsL p.1).bind fun xs => (compLoop (turnF C t cs elt vs) xs p.2).map fun q => (PyData.list q.1, back p.2 q.2 vs) else none) = _
  rw [hi]
  show (if noOw ρ1 vs = true then (fitsL xs).bind fun xs => (compLoop (turnF C t cs elt vs) xs ρ1).map fun q => (PyData.list q.1, back ρ1 q.2 vs) else none) = _
  rw [if_pos no]
  unfold fitsL
  rw [if_pos hl]
  show ((compLoop (turnF C t cs elt vs) xs ρ1).map fun q => (PyData.list q.1, back ρ1 q.2 vs)) = _
  obtain ⟨ρ', e, w⟩ := comp_loop (f := turnF C t cs elt vs) (vs := vs) (g := g) (xs := xs) (ρ := ρ1) fun x hx ρ' hw => by
    obtain ⟨ρ'', a, b⟩ := hb x hx
    refine ⟨ρ'', ?_, b⟩
    show bodyF C t cs elt x (wipeR ρ' vs) = _
    rw [hw]
    exact a
  rw [e]
  show some (PyData.list (xs.flatMap g), back ρ1 ρ' vs) = _
  rw [back_wipe w]
theorem flat_map {α β : Type} (h : α → β) (xs : List α) : xs.flatMap (fun x => [h x]) = xs.map h := by
  induction xs with
  | nil => rfl
  | cons x xs ih => rw [List.flatMap_cons, ih]; rfl
theorem flat_filter {α β : Type} (p : α → Bool) (h : α → β) (xs : List α) : xs.flatMap (fun x => if p x = true then [h x] else []) = (xs.filter p).map h := by
  induction xs with
  | nil => rfl
  | cons x xs ih =>
    rw [List.flatMap_cons, ih, List.filter_cons]
    by_cases e : p x = true
    · rw [if_pos e, if_pos e]; rfl
    · rw [if_neg e, if_neg e]; rfl
/-- a loop whose turns go on -/
theorem for_inv {f : D → Ro → Option Fl} (I : List D → Ro → Prop) : ∀ {xs pre : List D} {ρ : Ro}, I pre ρ → (∀ ys x ρ', ys ++ [x] <+: pre ++ xs → pre.length ≤ ys.length → x ∈ xs → I ys ρ' → ∃ ρ'', (f x ρ' = some (.nx ρ'') ∨ f x ρ' = some (.ct ρ'')) ∧ I (ys ++ [x]) ρ'') → ∃ ρ', forLoop f xs ρ = some (.nx ρ') ∧ I (pre ++ xs) ρ'
  | [], pre, ρ, h0, _ => ⟨ρ, rfl, by rw [List.append_nil]; exact h0⟩
  | x :: xs, pre, ρ, h0, h => by
    obtain ⟨ρ1, e1, i1⟩ := h pre x ρ ⟨xs, by simp⟩ (Nat.le_refl _) List.mem_cons_self h0
    obtain ⟨ρ2, e2, i2⟩ := for_inv (f := f) I (xs := xs) (pre := pre ++ [x]) (ρ := ρ1) i1 fun ys y ρ' hp hl hy hI => h ys y ρ' (by rw [show pre ++ x :: xs = pre ++ [x] ++ xs by simp]; exact hp) (by rw [List.length_append] at hl; omega) (List.mem_cons_of_mem _ hy) hI
    refine ⟨ρ2, ?_, by rw [show pre ++ x :: xs = pre ++ [x] ++ xs by simp]; exact i2⟩
    show ((f x ρ).bind fun r => match r with
      | .nx ρ' => forLoop f xs ρ'
      | .ct ρ' => forLoop f xs ρ'
      | .bk ρ' => some (.nx ρ')
      | .rt d ρ' => some (.rt d ρ')) = _
    rcases e1 with e1 | e1 <;> (rw [e1]; exact e2)
/-- .. with a state that does not look back -/
theorem for_st {f : D → Ro → Option Fl} (I : Ro → Prop) {xs : List D} {ρ : Ro} (h0 : I ρ) (h : ∀ x ∈ xs, ∀ ρ', I ρ' → ∃ ρ'', f x ρ' = some (.nx ρ'') ∧ I ρ'') : ∃ ρ', forLoop f xs ρ = some (.nx ρ') ∧ I ρ' := by
  obtain ⟨ρ', e, i⟩ := for_inv (f := f) (fun _ => I) (xs := xs) (pre := []) h0 fun ys x ρ' _ _ hx hI => by
    obtain ⟨ρ'', a, b⟩ := h x hx ρ' hI
    exact ⟨ρ'', .inl a, b⟩
  exact ⟨ρ', e, i⟩
/-- .. by a function -/
theorem for_fold {f : D → Ro → Option Fl} {S : Type} (R : S → Ro) (g : S → D → S) : ∀ {xs : List D} {s : S}, (∀ x ∈ xs, ∀ s, f x (R s) = some (.nx (R (g s x)))) → forLoop f xs (R s) = some (.nx (R (xs.foldl g s)))
  | [], s, _ => rfl
  | x :: xs, s, h => by
    show ((f x (R s)).bind fun r => match r with
      | .nx ρ' => forLoop f xs ρ'
      | .ct ρ' => forLoop f xs ρ'
      | .bk ρ' => some (.nx ρ')
      | .rt d ρ' => some (.rt d ρ')) = _
    rw [h x List.mem_cons_self s]
    exact for_fold R g fun y hy s => h y (List.mem_cons_of_mem _ hy) s
/-- a call, from the run of its body -/
theorem call_of {T : List Fi} {n f : Nat} {fi : Fi} {ds : List D} {d : D} {ρ' : Ro} {os : List D} (h : T[f]? = some fi) (ρ0 : Ro) (h1 : inSl fi.io ds = some ρ0) (h2 : exSs (evF T n) fi.body (ρ0 ++ List.replicate (fi.slots - ds.length) .no) = some (.rt d ρ')) (h3 : outSl fi.io ρ' = some os) : evF T (n + 1) f ds = some (d, os) := by
  show ((T[f]?).bind fun fi => (inSl fi.io ds).bind fun ρ => (exSs (evF T n) fi.body (ρ ++ List.replicate (fi.slots - ds.length) .no)).bind fun r => match r with
    | .nx ρ' => (outSl fi.io ρ').map fun os => (.none, os)
    | .rt d ρ' => (outSl fi.io ρ').map fun os => (d, os)
    | _ => none) = _
  rw [h]
  show ((inSl fi.io ds).bind fun ρ => (exSs (evF T n) fi.body (ρ ++ List.replicate (fi.slots - ds.length) .no)).bind fun r => match r with
    | .nx ρ' => (outSl fi.io ρ').map fun os => (.none, os)
    | .rt d ρ' => (outSl fi.io ρ').map fun os => (d, os)
    | _ => none) = _
  rw [h1]
  show ((exSs (evF T n) fi.body (ρ0 ++ List.replicate (fi.slots - ds.length) .no)).bind fun r => match r with
    | .nx ρ' => (outSl fi.io ρ').map fun os => (.none, os)
    | .rt d ρ' => (outSl fi.io ρ').map fun os => (d, os)
    | _ => none) = _
  rw [h2]
  show ((outSl fi.io ρ').map fun os => (d, os)) = _
  rw [h3]
  rfl
/-- a block's run -/
def Run (C : Call) (ss : ISs) (ρ : Ro) (P : Fl → Prop) : Prop := ∃ fl, exSs C ss ρ = some fl ∧ P fl
section
variable {C : Call} {s : IS} {ss : ISs} {ρ ρ' : Ro} {P : Fl → Prop}
theorem run_nil (h : P (.nx ρ)) : Run C .nil ρ P := ⟨_, rfl, h⟩
theorem run_step (h : match exS C s ρ with | some (.nx ρ') => Run C ss ρ' P | some fl => P fl | none => False) : Run C (.cons s ss) ρ P := by
  cases e : exS C s ρ with
  | none => rw [e] at h; exact h.elim
  | some fl =>
    rw [e] at h
    cases fl with
    | nx ρ' =>
      obtain ⟨fl, e2, hp⟩ := h
      exact ⟨fl, by rw [ex_cons, e]; exact e2, hp⟩
    | bk ρ' => exact ⟨_, by rw [ex_cons, e]; rfl, h⟩
    | ct ρ' => exact ⟨_, by rw [ex_cons, e]; rfl, h⟩
    | rt d ρ' => exact ⟨_, by rw [ex_cons, e]; rfl, h⟩
theorem run_nx (h : exS C s ρ = some (.nx ρ')) (h2 : Run C ss ρ' P) : Run C (.cons s ss) ρ P := run_step (by rw [h]; exact h2)
theorem run_ret {e : IE} {d : D} (h : evE C e ρ = some (d, ρ')) (hp : P (.rt d ρ')) : Run C (.cons (.ret e) ss) ρ P := run_step (by rw [ex_ret, h]; exact hp)
theorem run_if {c : IE} {a b : ISs} {d : D} {k : Bool} (h : evE C c ρ = some (d, ρ')) (ht : truthF d = some k) (h2 : Run C (if k = true then a else b) ρ' fun fl => match fl with | .nx ρ'' => Run C ss ρ'' P | fl => P fl) : Run C (.cons (.iff c a b) ss) ρ P := by
  obtain ⟨fl, e, hp⟩ := h2
  refine run_step ?_
  have e2 : exS C (.iff c a b) ρ = some fl := by
    rw [ex_iff, h]
    show (truthF d).bind _ = _
    rw [ht]
    cases k <;> exact e
  rw [e2]
  cases fl <;> exact hp
theorem run_ifI {c : IE} {a b : ISs} {d : D} {k : Bool} (I : Ro → Prop) (h : evE C c ρ = some (d, ρ')) (ht : truthF d = some k) (h2 : Run C (if k = true then a else b) ρ' fun fl => ∃ ρ'', fl = .nx ρ'' ∧ I ρ'') (h3 : ∀ ρ'', I ρ'' → Run C ss ρ'' P) : Run C (.cons (.iff c a b) ss) ρ P := by
  obtain ⟨fl, e, ρ'', rfl, i⟩ := h2
  exact run_if h ht ⟨.nx ρ'', e, h3 ρ'' i⟩
theorem run_for {t : Tg} {it : It} {b : ISs} {xs : List D} (I : List D → Ro → Prop) (hi : evI C it ρ = some (xs, ρ')) (h0 : I [] ρ') (ht : ∀ ys x ρ', ys ++ [x] <+: xs → x ∈ xs → I ys ρ' → ∃ ρ1, asgT t x ρ' = some ρ1 ∧ Run C b ρ1 fun fl => ∃ ρ'', (fl = .nx ρ'' ∨ fl = .ct ρ'') ∧ I (ys ++ [x]) ρ'')
    (h2 : ∀ ρ', I xs ρ' → Run C ss ρ' P) : Run C (.cons (.for_ t it b) ss) ρ P := by
  obtain ⟨ρe, e, i⟩ := for_inv (f := forF C t b) I (xs := xs) (pre := []) h0 fun ys x ρ' hp _ hx hI => by
    obtain ⟨ρ1, a, fl, a2, ρ'', a3, a4⟩ := ht ys x ρ' hp hx hI
    refine ⟨ρ'', ?_, a4⟩
    have : forF C t b x ρ' = some fl := by
      show ((asgT t x ρ').bind fun ρ1 => exSs C b ρ1) = _
      rw [a]; exact a2
    rw [this]
    rcases a3 with rfl | rfl
    · exact .inl rfl
    · exact .inr rfl
  refine run_nx (ρ' := ρe) ?_ (h2 ρe i)
  rw [ex_for, hi]
  exact e
/-- .. by a state -/
theorem run_forS {t : Tg} {it : It} {b : ISs} {xs : List D} (I : Ro → Prop) (hi : evI C it ρ = some (xs, ρ')) (h0 : I ρ') (ht : ∀ x ∈ xs, ∀ ρ', I ρ' → ∃ ρ1, asgT t x ρ' = some ρ1 ∧ Run C b ρ1 fun fl => ∃ ρ'', fl = .nx ρ'' ∧ I ρ'')
    (h2 : ∀ ρ', I ρ' → Run C ss ρ' P) : Run C (.cons (.for_ t it b) ss) ρ P :=
  run_for (fun _ => I) hi h0 (fun ys x ρ' _ hx hI => by
    obtain ⟨ρ1, a, fl, a2, ρ'', a3, a4⟩ := ht x hx ρ' hI
    exact ⟨ρ1, a, fl, a2, ρ'', .inl a3, a4⟩) h2
end
/-- a call, from its body's run -/
theorem call_run {T : List Fi} {n f : Nat} {fi : Fi} {ds : List D} {P : D × List D → Prop} (h : T[f]? = some fi) (ρ0 : Ro) (h1 : inSl fi.io ds = some ρ0) (h2 : Run (evF T n) fi.body (ρ0 ++ List.replicate (fi.slots - ds.length) .no) fun fl => ∃ d ρ' os, fl = .rt d ρ' ∧ outSl fi.io ρ' = some os ∧ P (d, os)) : ∃ r, evF T (n + 1) f ds = some r ∧ P r := by
  obtain ⟨fl, e, d, ρ', os, rfl, e3, hp⟩ := h2
  exact ⟨(d, os), call_of h ρ0 h1 e e3, hp⟩
end DV
end

section
/-! the laws' own helpers -/
namespace DV
open PySem
def fiDraws : Fi := { io := [false, false], slots := 8, body := (.cons (.asg (.nm 2) true (.lst .nil)) (.cons (.asg (.nm 3) false (.con (.int 7))) (.cons (.for_ (.nm 4) (.rng (.cons (.prim .len (.cons (.var 0) .nil)) .nil)) (.cons (.asg (.nm 5) false (.prim .abs (.cons (.prim .int (.cons (.prim .ix (.cons (.var 0) (.cons (.var 4) .nil))) .nil)) .nil))) (.cons (.asg (.nm 3) false (.prim (.bin .Mod) (.cons (.prim .int (.cons (.prim (.bin .Add) (.cons (.prim (.bin .Add) (.cons (.prim (.bin .Mult) (.cons (.var 3) (.cons (.con (.int 48271)) .nil))) (.cons (.prim (.bin .Mod) (.cons (.var 5) (.cons (.con (.int 1000003)) .nil))) .nil))) (.cons (.var 4) .nil))) .nil)) (.cons (.con (.int 65537)) .nil)))) (.cons (.asg (.nm 6) false (.con (.int 0))) (.cons (.iff (.prim (.cmp .GtE) (.cons (.var 5) (.cons (.prim (.bin .Pow) (.cons (.con (.int 10)) (.cons (.con (.int 18)) .nil))) .nil))) (.cons (.asg (.nm 6) false (.var 5)) .nil) (.cons (.exp (.mut .append 2 (.cons (.prim (.bin .Mod) (.cons (.prim .int (.cons (.var 5) .nil)) (.cons (.con (.int 997)) .nil))) .nil))) (.cons (.exp (.mut .append 2 (.cons (.prim (.bin .Mod) (.cons (.prim (.bin .Mod) (.cons (.prim .int (.cons (.prim (.bin .Add) (.cons (.prim (.bin .Mult) (.cons (.var 3) (.cons (.con (.int 69621)) .nil))) (.cons (.con (.int 5)) .nil))) .nil)) (.cons (.con (.int 65521)) .nil))) (.cons (.con (.int 997)) .nil))) .nil))) .nil))) (.cons (.for_ (.nm 7) (.rng (.cons (.con (.int 60)) .nil)) (.cons (.iff (.prim (.cmp .Gt) (.cons (.var 6) (.cons (.con (.int 0)) .nil))) (.cons (.exp (.mut .append 2 (.cons (.prim (.bin .Mod) (.cons (.prim .int (.cons (.var 6) .nil)) (.cons (.con (.int 997)) .nil))) .nil))) (.cons (.asg (.nm 6) false (.prim (.bin .FloorDiv) (.cons (.var 6) (.cons (.con (.int 997)) .nil)))) .nil)) .nil) .nil)) .nil)))))) (.cons (.for_ (.nm 4) (.rng (.cons (.var 1) .nil)) (.cons (.asg (.nm 3) false (.prim (.bin .Mod) (.cons (.prim .int (.cons (.prim (.bin .Add) (.cons (.prim (.bin .Add) (.cons (.prim (.bin .Mult) (.cons (.var 3) (.cons (.con (.int 16807)) .nil))) (.cons (.var 4) .nil))) (.cons (.con (.int 1)) .nil))) .nil)) (.cons (.con (.int 65537)) .nil)))) (.cons (.exp (.mut .append 2 (.cons (.prim (.bin .Mod) (.cons (.prim .int (.cons (.var 3) .nil)) (.cons (.con (.int 997)) .nil))) .nil))) .nil))) (.cons (.ret (.prim (.sl false true) (.cons (.own 2) (.cons (.var 1) .nil)))) .nil))))) }
def fiNext : Fi := { io := [true, false], slots := 2, body := (.cons (.augIx 0 (.con (.str ⟨#[97, 116]⟩)) .Add (.con (.int 1))) (.cons (.iff (.prim (.cmp .Gt) (.cons (.prim .ix (.cons (.own 0) (.cons (.con (.str ⟨#[97, 116]⟩)) .nil))) (.cons (.prim .len (.cons (.prim .ix (.cons (.own 0) (.cons (.con (.str ⟨#[100, 114, 97, 119, 115]⟩)) .nil))) .nil)) .nil))) (.cons (.ret (.con (.int 0))) .nil) .nil) (.cons (.ret (.prim (.bin .Mod) (.cons (.prim .int (.cons (.prim .ix (.cons (.prim .ix (.cons (.own 0) (.cons (.con (.str ⟨#[100, 114, 97, 119, 115]⟩)) .nil))) (.cons (.prim (.bin .Sub) (.cons (.prim .ix (.cons (.own 0) (.cons (.con (.str ⟨#[97, 116]⟩)) .nil))) (.cons (.con (.int 1)) .nil))) .nil))) .nil)) (.cons (.var 1) .nil)))) .nil))) }
def fiPick (nx : Nat) : Fi := { io := [true, false], slots := 2, body := (.cons (.ret (.prim .ix (.cons (.var 1) (.cons (.call nx (.cons (.io 0) (.cons (.prim .len (.cons (.var 1) .nil)) .nil))) .nil)))) .nil) }
def fiAlike (me : Nat) : Fi := { io := [false, false], slots := 3, body := (.cons (.iff (.prim (.isi "tuple") (.cons (.var 1) .nil)) (.cons (.iff (.or (.not (.prim (.isi "tuple") (.cons (.var 0) .nil))) (.prim (.cmp .NotEq) (.cons (.prim .len (.cons (.var 0) .nil)) (.cons (.prim .len (.cons (.var 1) .nil)) .nil)))) (.cons (.ret (.con (.bool false))) .nil) .nil) (.cons (.ret (.prim (.cmp .Eq) (.cons (.comp [2] (.nm 2) (.rng (.cons (.prim .len (.cons (.var 1) .nil)) .nil)) (.cons (.not (.call me (.cons (.prim .ix (.cons (.var 0) (.cons (.var 2) .nil))) (.cons (.prim .ix (.cons (.var 1) (.cons (.var 2) .nil))) .nil)))) .nil) (.var 2)) (.cons (.lst .nil) .nil)))) .nil)) .nil) (.cons (.iff (.prim .isN (.cons (.var 1) .nil)) (.cons (.ret (.prim .isN (.cons (.var 0) .nil))) .nil) .nil) (.cons (.iff (.prim (.isi "bool") (.cons (.var 1) .nil)) (.cons (.ret (.and (.prim (.isi "bool") (.cons (.var 0) .nil)) (.prim (.cmp .Eq) (.cons (.var 0) (.cons (.var 1) .nil))))) .nil) .nil) (.cons (.iff (.prim (.isi "int") (.cons (.var 1) .nil)) (.cons (.ret (.and (.prim (.isi "int") (.cons (.var 0) .nil)) (.and (.not (.prim (.isi "bool") (.cons (.var 0) .nil))) (.prim (.cmp .Eq) (.cons (.var 0) (.cons (.var 1) .nil)))))) .nil) .nil) (.cons (.ret (.and (.prim (.isi "str") (.cons (.var 0) .nil)) (.prim (.cmp .Eq) (.cons (.var 0) (.cons (.var 1) .nil))))) .nil))))) }
/-- the draws and how far they are used -/
def wD (ds : List Int) (k : Int) : D := .dict [(.str ⟨#[100, 114, 97, 119, 115]⟩, .list (ds.map .int)), (.str ⟨#[97, 116]⟩, .int k)]
theorem w_at (ds : List Int) (k : Int) : ixF (wD ds k) (.str ⟨#[97, 116]⟩) = some (.int k) := rfl
theorem w_draws (ds : List Int) (k : Int) : ixF (wD ds k) (.str ⟨#[100, 114, 97, 119, 115]⟩) = some (.list (ds.map .int)) := rfl
theorem w_set (ds : List Int) (k j : Int) : setIxF (wD ds k) (.str ⟨#[97, 116]⟩) (.int j) = some (wD ds j) := rfl
theorem w_kind (ds : List Int) (k : Int) : kindD (wD ds k) = 6 := rfl
theorem next_ok {T : List Fi} {n f : Nat} (h : T[f]? = some fiNext) (ds : List Int) (k : Nat) (m : Int) (hm : 0 < m) : ∃ r : Int, 0 ≤ r ∧ r < m ∧ evF T (n + 1) f [wD ds k, .int m] = some (.int r, [wD ds (k + 1 : Nat)]) := by
  by_cases hk : ds.length < k + 1
  · refine ⟨0, Int.le_refl _, hm, call_of h [.ow (wD ds k), .sh (.int m)] rfl (ρ' := [.ow (wD ds (k + 1 : Nat)), .sh (.int m)]) ?_ rfl⟩
    show exSs _ fiNext.body [.ow (wD ds k), .sh (.int m)] = _
    unfold fiNext
    refine ex_nx _ (ρ' := [.ow (wD ds (k + 1 : Nat)), .sh (.int m)]) (by simp [w_at, w_set]) ?_
    refine ex_rt _ ?_
    have e : ((ds.length : Int) < (k : Int) + 1) := by omega
    simp [w_at, w_draws, w_kind, e, ex_cons]
  · obtain ⟨z, hz⟩ : ∃ z, ds[k]? = some z := ⟨_, List.getElem?_eq_getElem (by omega)⟩
    refine ⟨z.fmod m, Int.fmod_nonneg_of_pos _ hm, Int.fmod_lt_of_pos _ hm, call_of h [.ow (wD ds k), .sh (.int m)] rfl (ρ' := [.ow (wD ds (k + 1 : Nat)), .sh (.int m)]) ?_ rfl⟩
    show exSs _ fiNext.body [.ow (wD ds k), .sh (.int m)] = _
    unfold fiNext
    refine ex_nx _ (ρ' := [.ow (wD ds (k + 1 : Nat)), .sh (.int m)]) (by simp [w_at, w_set]) ?_
    have e : ¬ ((ds.length : Int) < (k : Int) + 1) := by omega
    refine ex_nx _ (ρ' := [.ow (wD ds (k + 1 : Nat)), .sh (.int m)]) (by simp [w_at, w_draws, w_kind, e]) ?_
    refine ex_rt _ ?_
    have e2 : L2.atI (ds.map PyData.int) (k : Int) = some (.int z) := by
      unfold L2.atI
      have : L2.ixN (ds.map PyData.int).length (k : Int) = some k := by
        unfold L2.ixN
        rw [if_pos (by omega), if_pos (by rw [List.length_map]; omega)]
        simp
      rw [this]
      simp [hz]
    have hm0 : m ≠ 0 := by omega
    simp [w_at, w_draws, w_kind, e2, hm0]
theorem pick_ok {T : List Fi} {n f nx : Nat} (h : T[f]? = some (fiPick nx)) (hn : T[nx]? = some fiNext) (ds : List Int) (k : Nat) (rows : List D) (hr : rows ≠ []) : ∃ x ∈ rows, evF T (n + 2) f [wD ds k, .list rows] = some (x, [wD ds (k + 1 : Nat)]) := by
  obtain ⟨r, h0, h1, e⟩ := next_ok (n := n) hn ds k rows.length (by have := List.length_pos_iff.mpr hr; omega)
  obtain ⟨x, hx⟩ : ∃ x, rows[r.toNat]? = some x := ⟨_, List.getElem?_eq_getElem (by omega)⟩
  have e2 : L2.atI rows r = some x := by
    unfold L2.atI
    have : L2.ixN rows.length r = some r.toNat := by
      unfold L2.ixN
      rw [if_pos h0, if_pos h1]
    rw [this]
    exact hx
  refine ⟨x, List.mem_of_getElem? hx, call_of h [.ow (wD ds k), .sh (.list rows)] rfl (ρ' := [.ow (wD ds (k + 1 : Nat)), .sh (.list rows)]) ?_ rfl⟩
  show exSs _ (fiPick nx).body [.ow (wD ds k), .sh (.list rows)] = _
  unfold fiPick
  refine ex_rt _ ?_
  simp [e, noMut, e2]
/-- the same, from a tuple -/
theorem pick_okT {T : List Fi} {n f nx : Nat} (h : T[f]? = some (fiPick nx)) (hn : T[nx]? = some fiNext) (ds : List Int) (k : Nat) (rows : List D) (hr : rows ≠ []) : ∃ x ∈ rows, evF T (n + 2) f [wD ds k, .tuple rows] = some (x, [wD ds (k + 1 : Nat)]) := by
  obtain ⟨r, h0, h1, e⟩ := next_ok (n := n) hn ds k rows.length (by have := List.length_pos_iff.mpr hr; omega)
  obtain ⟨x, hx⟩ : ∃ x, rows[r.toNat]? = some x := ⟨_, List.getElem?_eq_getElem (by omega)⟩
  have e2 : L2.atI rows r = some x := by
    unfold L2.atI
    have : L2.ixN rows.length r = some r.toNat := by
      unfold L2.ixN
      rw [if_pos h0, if_pos h1]
    rw [this]
    exact hx
  refine ⟨x, List.mem_of_getElem? hx, call_of h [.ow (wD ds k), .sh (.tuple rows)] rfl (ρ' := [.ow (wD ds (k + 1 : Nat)), .sh (.tuple rows)]) ?_ rfl⟩
  show exSs _ (fiPick nx).body [.ow (wD ds k), .sh (.tuple rows)] = _
  unfold fiPick
  refine ex_rt _ ?_
  simp [e, noMut, e2]
theorem atI_nat {xs : List D} {k : Nat} {d : D} (h : xs[k]? = some d) : L2.atI xs (k : Int) = some d := by
  unfold L2.atI
  have hl := (List.getElem?_eq_some_iff.mp h).1
  have : L2.ixN xs.length (k : Int) = some k := by
    unfold L2.ixN
    rw [if_pos (by omega), if_pos (by omega)]
    simp
  rw [this]
  exact h
theorem rangeI_mem {n : Nat} {x : D} (h : x ∈ rangeI 0 n 1) : ∃ k : Nat, k < n ∧ x = .int k := by
  unfold rangeI at h
  obtain ⟨k, hk, rfl⟩ := List.mem_map.mp h
  exact ⟨k, List.mem_range.mp hk, by simp⟩
/-- the slots of the draws -/
def drS (script many : D) (ds : List Int) (m : Int) (a b c d : Sl) : Ro := [.sh script, .sh many, .ow (.list (ds.map .int)), .sh (.int m), a, b, c, d]
theorem small_lit {i : Int} (h : small i = true) (j : Int) : (small j || small i) = true := by rw [h, Bool.or_true]
theorem draws_ok {T : List Fi} {n f : Nat} (h : T[f]? = some fiDraws) (ns : List Int) (many : Nat) (hl : ns.length ≤ 63) (hm : many ≤ 100000) : ∃ ds : List Int, evF T (n + 1) f [.list (ns.map .int), .int many] = some (.list (ds.map .int), []) := by
  suffices q : ∃ r, evF T (n + 1) f [.list (ns.map .int), .int many] = some r ∧ ∃ ds : List Int, r = (.list (ds.map .int), []) by
    obtain ⟨r, e, ds, rfl⟩ := q
    exact ⟨ds, e⟩
  refine call_run h [.sh (.list (ns.map .int)), .sh (.int many)] rfl ?_
  show Run _ fiDraws.body [.sh (.list (ns.map .int)), .sh (.int many), .no, .no, .no, .no, .no, .no] _
  unfold fiDraws
  refine run_nx (ρ' := [.sh (.list (ns.map .int)), .sh (.int many), .ow (.list []), .no, .no, .no, .no, .no]) (by simp) ?_
  refine run_nx (ρ' := drS (.list (ns.map .int)) (.int many) [] 7 .no .no .no .no) (by simp [drS]) ?_
  have rl : rngIn (ns.length : Int) = true := by unfold rngIn; simp; omega
  refine run_for (fun pre ρ => ∃ ds m a b c d, ρ = drS (.list (ns.map .int)) (.int many) ds m a b c d ∧ ds.length ≤ 62 * pre.length) (xs := rangeI 0 ns.length 1) (ρ' := drS (.list (ns.map .int)) (.int many) [] 7 .no .no .no .no) (by simp [drS, rl]) ⟨[], 7, .no, .no, .no, .no, rfl, Nat.le_refl _⟩ ?_ ?_
  · intro ys x ρ' hp hx hI
    obtain ⟨k, hk, rfl⟩ := rangeI_mem hx
    obtain ⟨ds, m, a, b, c, d, rfl, hds⟩ := hI
    have hy : ys.length < ns.length := by
      have := hp.length_le
      rw [rangeI_len, List.length_append] at this
      have h1 : ([PyData.int (k : Int)] : List D).length = 1 := rfl
      omega
    obtain ⟨z, hz⟩ : ∃ z, ns[k]? = some z := ⟨_, List.getElem?_eq_getElem hk⟩
    have ez : L2.atI (ns.map PyData.int) (k : Int) = some (.int z) := atI_nat (by rw [List.getElem?_map, hz]; rfl)
    refine ⟨_, rfl, ?_⟩
    have s1 : small 48271 = true := by decide
    have s2 : small 69621 = true := by decide
    refine run_nx (ρ' := drS (.list (ns.map .int)) (.int many) ds m (.sh (.int k)) (.sh (.int (if z < 0 then -z else z))) c d) (by simp [drS, ez]) ?_
    generalize (if z < 0 then -z else z) = u
    refine run_nx (ρ' := drS (.list (ns.map .int)) (.int many) ds ((m * 48271 + u.fmod 1000003 + k).fmod 65537) (.sh (.int k)) (.sh (.int u)) c d) (by simp [drS, s1]) ?_
    generalize (m * 48271 + u.fmod 1000003 + k).fmod 65537 = m2
    refine run_nx (ρ' := drS (.list (ns.map .int)) (.int many) ds m2 (.sh (.int k)) (.sh (.int u)) (.sh (.int 0)) d) (by simp [drS]) ?_
    have hpow : powF (.int 10) (.int 18) = some (.int 1000000000000000000) := by simp [powF]
    have hbig : ds.length + 62 < sizeLine := by
      rw [sizeLine_eq]
      omega
    refine run_ifI (d := .bool (decide ((1000000000000000000 : Int) ≤ u))) (fun ρ => ∃ ds' r, ρ = drS (.list (ns.map .int)) (.int many) ds' m2 (.sh (.int k)) (.sh (.int u)) (.sh (.int r)) d ∧ ds'.length ≤ ds.length + 2) (ρ' := drS (.list (ns.map .int)) (.int many) ds m2 (.sh (.int k)) (.sh (.int u)) (.sh (.int 0)) d) (by simp [drS, hpow]) rfl ?_ ?_
    · by_cases hc : (1000000000000000000 : Int) ≤ u
      · rw [decide_eq_true hc, if_pos rfl]
        exact run_nx (ρ' := drS (.list (ns.map .int)) (.int many) ds m2 (.sh (.int k)) (.sh (.int u)) (.sh (.int u)) d) (by simp [drS]) (run_nil ⟨_, rfl, ds, u, rfl, by omega⟩)
      · rw [decide_eq_false hc, if_neg Bool.false_ne_true]
        have h1 : ds.length < sizeLine := by omega
        have h2 : ds.length + 1 < sizeLine := by omega
        refine run_nx (ρ' := drS (.list (ns.map .int)) (.int many) (ds ++ [u.fmod 997]) m2 (.sh (.int k)) (.sh (.int u)) (.sh (.int 0)) d) (by simp [drS, h1]) ?_
        exact run_nx (ρ' := drS (.list (ns.map .int)) (.int many) (ds ++ [u.fmod 997] ++ [((m2 * 69621 + 5).fmod 65521).fmod 997]) m2 (.sh (.int k)) (.sh (.int u)) (.sh (.int 0)) d) (by simp [drS, h2, s2]) (run_nil ⟨_, rfl, _, _, rfl, by simp⟩)
    · rintro ρ ⟨ds', r, rfl, hd'⟩
      have r60 : rngIn 60 = true := by decide
      refine run_for (fun pre ρ => ∃ ds2 r d2, ρ = drS (.list (ns.map .int)) (.int many) ds2 m2 (.sh (.int k)) (.sh (.int u)) (.sh (.int r)) d2 ∧ ds2.length ≤ ds.length + 2 + pre.length) (xs := rangeI 0 60 1) (ρ' := drS (.list (ns.map .int)) (.int many) ds' m2 (.sh (.int k)) (.sh (.int u)) (.sh (.int r)) d) (by simp [drS, r60]) ⟨ds', r, d, rfl, by simpa using hd'⟩ ?_ ?_
      · rintro zs y ρ' hp2 hy2 ⟨ds2, r2, d2, rfl, hl2⟩
        have hz2 : zs.length < 60 := by
          have := hp2.length_le
          rw [rangeI_len, List.length_append] at this
          have h1 : ([y] : List D).length = 1 := rfl
          omega
        refine ⟨_, rfl, ?_⟩
        refine run_ifI (d := .bool (decide ((0 : Int) < r2))) (fun ρ => ∃ ds3 r3, ρ = drS (.list (ns.map .int)) (.int many) ds3 m2 (.sh (.int k)) (.sh (.int u)) (.sh (.int r3)) (.sh y) ∧ ds3.length ≤ ds2.length + 1) (ρ' := drS (.list (ns.map .int)) (.int many) ds2 m2 (.sh (.int k)) (.sh (.int u)) (.sh (.int r2)) (.sh y)) (by simp [drS]) rfl ?_ ?_
        · by_cases hr : 0 < r2
          · rw [decide_eq_true hr, if_pos rfl]
            have h1 : ds2.length < sizeLine := by omega
            have hdv : divOk 997 = true := by decide
            refine run_nx (ρ' := drS (.list (ns.map .int)) (.int many) (ds2 ++ [r2.fmod 997]) m2 (.sh (.int k)) (.sh (.int u)) (.sh (.int r2)) (.sh y)) (by simp [drS, h1]) ?_
            exact run_nx (ρ' := drS (.list (ns.map .int)) (.int many) (ds2 ++ [r2.fmod 997]) m2 (.sh (.int k)) (.sh (.int u)) (.sh (.int (r2.fdiv 997))) (.sh y)) (by simp [drS, hdv]) (run_nil ⟨_, rfl, _, _, rfl, by simp⟩)
          · rw [decide_eq_false hr, if_neg Bool.false_ne_true]
            exact run_nil ⟨_, rfl, ds2, r2, rfl, by omega⟩
        · rintro ρ ⟨ds3, r3, rfl, hl3⟩
          refine run_nil ⟨_, .inl rfl, ds3, r3, _, rfl, ?_⟩
          rw [List.length_append]
          have h1 : ([y] : List D).length = 1 := rfl
          omega
      · rintro ρ ⟨ds2, r2, d2, rfl, hl2⟩
        refine run_nil ⟨_, .inl rfl, ds2, m2, _, _, _, _, rfl, ?_⟩
        rw [rangeI_len] at hl2
        rw [List.length_append]
        have h1 : ([PyData.int (k : Int)] : List D).length = 1 := rfl
        omega
  · rintro ρ ⟨ds, m, a, b, c, d, rfl, hds⟩
    rw [rangeI_len] at hds
    have rm : rngIn (many : Int) = true := by unfold rngIn; simp; omega
    have s3 : small 16807 = true := by decide
    refine run_for (fun pre ρ => ∃ ds2 m2 a2, ρ = drS (.list (ns.map .int)) (.int many) ds2 m2 a2 b c d ∧ ds2.length ≤ ds.length + pre.length) (xs := rangeI 0 many 1) (ρ' := drS (.list (ns.map .int)) (.int many) ds m a b c d) (by simp [drS, rm]) ⟨ds, m, a, rfl, by simp⟩ ?_ ?_
    · rintro zs y ρ' hp2 hy2 ⟨ds2, m2, a2, rfl, hl2⟩
      obtain ⟨k, hk, rfl⟩ := rangeI_mem hy2
      have hz2 : zs.length < many := by
        have := hp2.length_le
        rw [rangeI_len, List.length_append] at this
        have h1 : ([PyData.int (k : Int)] : List D).length = 1 := rfl
        omega
      have h1 : ds2.length < sizeLine := by rw [sizeLine_eq]; omega
      refine ⟨_, rfl, ?_⟩
      refine run_nx (ρ' := drS (.list (ns.map .int)) (.int many) ds2 ((m2 * 16807 + k + 1).fmod 65537) (.sh (.int k)) b c d) (by simp [drS, s3]) ?_
      refine run_nx (ρ' := drS (.list (ns.map .int)) (.int many) (ds2 ++ [((m2 * 16807 + k + 1).fmod 65537).fmod 997]) ((m2 * 16807 + k + 1).fmod 65537) (.sh (.int k)) b c d) (by simp [drS, h1]) ?_
      refine run_nil ⟨_, .inl rfl, _, _, _, rfl, ?_⟩
      simp only [List.length_append, List.length_singleton]
      omega
    · rintro ρ ⟨ds2, m2, a2, rfl, hl2⟩
      refine run_ret (d := .list (cut (ds2.map PyData.int) none (some many))) (ρ' := drS (.list (ns.map .int)) (.int many) ds2 m2 a2 b c d) (by simp [drS]) ⟨_, _, [], rfl, rfl, cut ds2 none (some many), ?_⟩
      unfold cut
      rw [← List.map_drop, ← List.map_take, List.length_map]
mutual
/-- without lists and dicts -/
def alD : D → Bool
  | .tuple xs => alDs xs && decide (xs.length ≤ 1000000)
  | .list _ => false
  | .dict _ => false
  | _ => true
def alDs : List D → Bool
  | [] => true
  | x :: xs => alD x && alDs xs
end
mutual
def dpD : D → Nat
  | .tuple xs => dpDs xs + 1
  | _ => 0
def dpDs : List D → Nat
  | [] => 0
  | x :: xs => max (dpD x) (dpDs xs)
end
theorem alDs_mem : ∀ {xs : List D} {x : D}, alDs xs = true → x ∈ xs → alD x = true ∧ dpD x ≤ dpDs xs
  | y :: ys, x, h, hx => by
    have h : (alD y && alDs ys) = true := h
    rw [Bool.and_eq_true] at h
    rcases List.mem_cons.mp hx with rfl | hx
    · exact ⟨h.1, Nat.le_max_left _ _⟩
    · obtain ⟨a, b⟩ := alDs_mem h.2 hx
      exact ⟨a, Nat.le_trans b (Nat.le_max_right _ _)⟩
@[simp] theorem eqBBw (i j : Bool) : eqF (.bool i) (.bool j) = some (i == j) := by
  have : PyData.eqv (.bool i) (.bool j) = (i == j) := by cases i <;> cases j <;> first | rfl | simp [PyData.eqv]
  rw [← this]; rfl
theorem eqNil : eqF (.list []) (.list []) = some true := by decide +kernel
theorem alike_ok {T : List Fi} {f : Nat} (h : T[f]? = some (fiAlike f)) : ∀ (m : Nat) (d : D), alD d = true → dpD d ≤ m → ∀ n, evF T (n + m + 1) f [d, d] = some (.bool true, []) := by
  intro m
  induction m with
  | zero =>
    intro d ha hd n
    refine call_of h [.sh d, .sh d] rfl (ρ' := [.sh d, .sh d, .no]) ?_ rfl
    show exSs _ (fiAlike f).body [.sh d, .sh d, .no] = _
    unfold fiAlike
    cases d with
    | tuple xs => exact absurd hd (by simp [dpD])
    | list xs => cases ha
    | dict xs => cases ha
    | none => simp [ex_cons]
    | bool b => simp [ex_cons]
    | int b => simp [ex_cons]
    | str b => simp [ex_cons]
  | succ m ih =>
    intro d ha hd n
    refine call_of h [.sh d, .sh d] rfl (ρ' := [.sh d, .sh d, .no]) ?_ rfl
    show exSs _ (fiAlike f).body [.sh d, .sh d, .no] = _
    unfold fiAlike
    cases d with
    | tuple xs =>
      have ha : (alDs xs && decide (xs.length ≤ 1000000)) = true := ha
      rw [Bool.and_eq_true] at ha
      have hsz := of_decide_eq_true ha.2
      have hd : dpDs xs + 1 ≤ m + 1 := hd
      have rx : rngIn (xs.length : Int) = true := by unfold rngIn; simp; omega
      have hc : evE (evF T (n + (m + 1))) (.comp [2] (.nm 2) (.rng (.cons (.prim .len (.cons (.var 1) .nil)) .nil)) (.cons (.not (.call f (.cons (.prim .ix (.cons (.var 0) (.cons (.var 2) .nil))) (.cons (.prim .ix (.cons (.var 1) (.cons (.var 2) .nil))) .nil)))) .nil) (.var 2)) [.sh (.tuple xs), .sh (.tuple xs), .no] = some (.list [], [.sh (.tuple xs), .sh (.tuple xs), .no]) := by
        have q := comp_ev (C := evF T (n + (m + 1))) (vs := [2]) (t := .nm 2) (it := (.rng (.cons (.prim .len (.cons (.var 1) .nil)) .nil))) (cs := (.cons (.not (.call f (.cons (.prim .ix (.cons (.var 0) (.cons (.var 2) .nil))) (.cons (.prim .ix (.cons (.var 1) (.cons (.var 2) .nil))) .nil)))) .nil)) (elt := .var 2) (ρ := [.sh (.tuple xs), .sh (.tuple xs), .no]) (ρ1 := [.sh (.tuple xs), .sh (.tuple xs), .no]) (xs := rangeI 0 xs.length 1) (fun _ => []) (by simp [rx]) rfl (by rw [rangeI_len, sizeLine_eq]; omega) (fun x hx => by
          obtain ⟨k, hk, rfl⟩ := rangeI_mem hx
          obtain ⟨y, hy⟩ : ∃ y, xs[k]? = some y := ⟨_, List.getElem?_eq_getElem hk⟩
          obtain ⟨a1, a2⟩ := alDs_mem ha.1 (List.mem_of_getElem? hy)
          have e := ih y a1 (by omega) n
          refine ⟨[.sh (.tuple xs), .sh (.tuple xs), .sh (.int k)], ?_, rfl⟩
          have ei := atI_nat hy
          show bodyF _ _ _ _ _ [.sh (.tuple xs), .sh (.tuple xs), .no] = _
          simp [bodyF, ei, show n + (m + 1) = n + m + 1 from rfl, e])
        rw [q]
        simp
      simp [ex_cons, hc, eqNil]
    | list xs => cases ha
    | dict xs => cases ha
    | none => simp [ex_cons]
    | bool b => simp [ex_cons]
    | int b => simp [ex_cons]
    | str b => simp [ex_cons]
end DV
end

section
/-! texts as lists of signs; steps; comprehensions with a state -/
namespace DV
open PySem
/-! ### texts -/
/-- a text by its signs -/
def tx (cs : List Nat) : Str := ⟨cs.toArray⟩
@[simp] theorem tx_len (cs : List Nat) : (tx cs).length = cs.length := by show cs.toArray.size = _; simp
@[simp] theorem tx_cps (cs : List Nat) : (tx cs).cps.toList = cs := by show cs.toArray.toList = _; simp
theorem tx_of (s : Str) : tx s.cps.toList = s := by show (⟨s.cps.toList.toArray⟩ : Str) = s; simp
theorem tx_app (a b : List Nat) : tx a ++ tx b = tx (a ++ b) := by
  show (⟨a.toArray ++ b.toArray⟩ : Str) = ⟨(a ++ b).toArray⟩
  simp
theorem tx_inj {a b : List Nat} (h : tx a = tx b) : a = b := by
  have := congrArg (fun s : Str => s.cps.toList) h
  simpa using this
theorem join_tx : ∀ ls : List (List Nat), Str.join ⟨#[]⟩ (ls.map tx) = tx ls.flatten
  | [] => rfl
  | [a] => by simp [Str.join]
  | a :: b :: r => by
    have ih := join_tx (b :: r)
    have e : Str.join ⟨#[]⟩ ((a :: b :: r).map tx) = tx a ++ tx [] ++ Str.join ⟨#[]⟩ ((b :: r).map tx) := rfl
    rw [e, ih, tx_app, tx_app]
    simp
theorem strsOf_map : ∀ ls : List Str, strsOf (ls.map PyData.str) = some ls
  | [] => rfl
  | a :: r => by
    show (strsOf (r.map PyData.str)).map (a :: ·) = _
    rw [strsOf_map r]
    rfl
theorem joinLen_nil (ls : List (List Nat)) : joinLen ⟨#[]⟩ (ls.map tx) = ls.flatten.length := by
  unfold joinLen
  have : (⟨#[]⟩ : Str).length = 0 := rfl
  rw [this, Nat.mul_zero, Nat.add_zero, List.map_map, List.length_flatten]
  congr 1
  try (apply List.map_congr_left; intro x _; exact tx_len x)
/-- ''.join of texts -/
theorem join_ok (ls : List (List Nat)) (h : ls.flatten.length ≤ sizeLine) : joinF ⟨#[]⟩ (ls.map tx) = some (.str (tx ls.flatten)) := by
  unfold joinF
  rw [joinLen_nil, if_pos h, join_tx]
theorem sign_ok {cs : List Nat} {k : Nat} {c : Nat} (h : cs[k]? = some c) : signAt (tx cs) (k : Int) = some (tx [c]) := by
  unfold signAt
  have : L2.atI (tx cs).cps.toList (k : Int) = some c := by
    rw [tx_cps]
    unfold L2.atI
    have hl := (List.getElem?_eq_some_iff.mp h).1
    have : L2.ixN cs.length (k : Int) = some k := by
      unfold L2.ixN
      rw [if_pos (by omega), if_pos (by omega)]
      simp
    rw [this]
    exact h
  rw [this]
  rfl

/-! ### every w-th -/
def stp (k n w : Nat) : List Nat := (List.range n).filter fun j => j % w == k
theorem stp_eq {k w : Nat} (hk : k < w) : ∀ n : Nat, stp k n w = (List.range ((n + w - 1 - k) / w)).map fun j => k + j * w
  | 0 => by
    have : (0 + w - 1 - k) / w = 0 := Nat.div_eq_of_lt (by omega)
    rw [this]
    rfl
  | n + 1 => by
    have ih := stp_eq hk n
    unfold stp at ih ⊢
    rw [List.range_succ, List.filter_append, ih]
    have e : n + 1 + w - 1 - k = (n + w - 1 - k) + 1 := by omega
    rw [e, Nat.succ_div]
    have iff : (w ∣ n + w - 1 - k + 1) ↔ n % w = k := by
      have e1 : n + w - 1 - k + 1 = n + (w - k) := by omega
      rw [e1, Nat.dvd_iff_mod_eq_zero, Nat.add_mod]
      have hm : n % w < w := Nat.mod_lt _ (by omega)
      by_cases h0 : k = 0
      · subst h0
        rw [Nat.sub_zero, Nat.mod_self, Nat.add_zero, Nat.mod_mod]
      · rw [Nat.mod_eq_of_lt (show w - k < w by omega)]
        constructor
        · intro h
          by_cases hlt : n % w + (w - k) < w
          · rw [Nat.mod_eq_of_lt hlt] at h
            omega
          · rw [Nat.mod_eq_sub_mod (by omega)] at h
            rw [Nat.mod_eq_of_lt (by omega)] at h
            omega
        · intro h
          rw [h, show k + (w - k) = w by omega, Nat.mod_self]
    by_cases hn : n % w = k
    · rw [if_pos (iff.mpr hn), List.range_succ, List.map_append]
      congr 1
      have hb : (n % w == k) = true := by simpa using hn
      simp only [List.filter_cons, hb, if_true, List.filter_nil, List.map_cons, List.map_nil]
      have hq : (n + w - 1 - k) / w = n / w := by
        have e2 : n + w - 1 - k = w * (n / w) + (w - 1) := by
          have := Nat.div_add_mod n w
          omega
        rw [e2, Nat.mul_add_div (by omega), Nat.div_eq_of_lt (show w - 1 < w by omega), Nat.add_zero]
      rw [hq]
      have := Nat.div_add_mod n w
      rw [Nat.mul_comm] at this
      congr 1
      omega
    · rw [if_neg fun q => hn (iff.mp q), Nat.add_zero]
      have hb : (n % w == k) = false := by simpa using hn
      simp only [List.filter_cons, hb, List.filter_nil]
      simp
theorem stp_mem {k n w j : Nat} : j ∈ stp k n w ↔ j < n ∧ j % w = k := by
  unfold stp
  rw [List.mem_filter, List.mem_range, beq_iff_eq]
theorem stp_nodup {k n w : Nat} : (stp k n w).Nodup := List.nodup_range.filter _
theorem rsize {k n w : Nat} (hw : 0 < w) : Builtin.Range.rangeSize k n w = (((n + w - 1 - k) / w : Nat) : Int) ∨ n ≤ k := by
  by_cases h : k < n
  · left
    unfold Builtin.Range.rangeSize
    rw [if_pos (by omega), if_pos (by omega)]
    have e : (n : Int) - k - 1 = ((n - k - 1 : Nat) : Int) := by omega
    rw [e, ← Int.natCast_ediv]
    have e2 : n + w - 1 - k = (n - k - 1) + w := by omega
    rw [e2, Nat.add_div_right _ hw]
    simp
  · exact .inr (by omega)
/-- range(k, n, w) -/
theorem rng_step {k n w : Nat} (hk : k < w) (hn : n < 1000000) (hw : w < 1000000) : rngF [.int k, .int n, .int w] = some ((stp k n w).map fun j : Nat => .int j) := by
  show (if (rngIn (k : Int) && rngIn (n : Int) && decide ((w : Int) ≠ 0) && decide ((w : Int).natAbs < 1073741824)) = true then some (rangeI k (Builtin.Range.rangeSize k n w).toNat w) else none) = _
  have c : (rngIn (k : Int) && rngIn (n : Int) && decide ((w : Int) ≠ 0) && decide ((w : Int).natAbs < 1073741824)) = true := by
    simp only [Bool.and_eq_true, decide_eq_true_eq, rngIn]
    omega
  rw [if_pos c, stp_eq hk]
  congr 1
  have hs : (Builtin.Range.rangeSize k n w).toNat = (n + w - 1 - k) / w := by
    rcases rsize (k := k) (n := n) (w := w) (by omega) with h | h
    · rw [h]; rfl
    · have : (n + w - 1 - k) / w = 0 := Nat.div_eq_of_lt (by omega)
      rw [this]
      unfold Builtin.Range.rangeSize
      rw [if_pos (by omega), if_neg (by omega)]
      rfl
  rw [hs]
  unfold rangeI
  rw [List.map_map]
  apply List.map_congr_left
  intro j _
  simp
theorem range_take {α : Type} (xs : List α) : ∀ n : Nat, (List.range n).filterMap (xs[·]?) = xs.take n
  | 0 => by simp
  | n + 1 => by
    rw [List.range_succ, List.filterMap_append, range_take xs n, List.take_add_one]
    congr 1
    try (cases h : xs[n]? <;> simp [h])
theorem range_map_get {α : Type} (xs : List α) : (List.range xs.length).filterMap (xs[·]?) = xs := by rw [range_take, List.take_length]
/-- text[k::w] -/
theorem slst_tx {k w : Nat} {cs : List Nat} (hk : k < w) : slstF (some (k : Int)) none (w : Int) (.str (tx cs)) = some (.str (tx ((stp k cs.length w).filterMap (cs[·]?)))) := by
  show (if (w : Int) = 0 then none else some (PyData.str ⟨(cutBy (tx cs).cps.toList (some (k : Int)) none (w : Int)).toArray⟩)) = _
  rw [if_neg (by omega), tx_cps]
  congr 3
  unfold cutBy
  by_cases h1 : (w : Int) = 1
  · rw [if_pos h1]
    have hw : w = 1 := by omega
    have hk0 : k = 0 := by omega
    subst hw hk0
    have e : stp 0 cs.length 1 = List.range cs.length := by
      unfold stp
      rw [List.filter_eq_self]
      intro a _
      simp [Nat.mod_one]
    rw [e, range_map_get]
    unfold cut
    rw [HT.sIx_none]
    rw [show HT.sIx cs.length 0 (some ((0 : Nat) : Int)) = min 0 cs.length from HT.sIx_nat cs.length 0 0]
    simp
  · rw [if_neg h1]
    congr 1
    rw [stp_eq hk]
    unfold Builtin.Str.strSliceIndices sliceRange
    have hw : (w : Int) > 0 := by omega
    simp only [hw, if_true]
    have hk0 : ¬ ((k : Int) < 0) := by omega
    simp only [hk0, if_false]
    have hs : max 0 (min (k : Int) (cs.length : Int)) = ((min k cs.length : Nat) : Int) := by omega
    rw [hs]
    by_cases hl : k < cs.length
    · rw [if_pos (by omega)]
      have e : (cs.length : Int) - ((min k cs.length : Nat) : Int) + (w : Int) - 1 = ((cs.length + w - 1 - k : Nat) : Int) := by omega
      rw [e, ← Int.natCast_ediv, Int.toNat_natCast]
      congr 1
      apply List.map_congr_left
      intro j _
      rw [show min k cs.length = k by omega, Nat.mul_comm]
      rw [← Int.natCast_mul, ← Int.natCast_add, Int.toNat_natCast]
    · rw [if_neg (by omega)]
      have : (cs.length + w - 1 - k) / w = 0 := Nat.div_eq_of_lt (by omega)
      rw [this]
      rfl

/-! ### comprehensions with a state -/
theorem comp_loopI {f : D → Ro → Option (List D × Ro)} {vs : List Nat} {I : Ro → Prop} {Pd : D → Prop} : ∀ {xs : List D} {ρ : Ro}, I (wipeR ρ vs) → (∀ x ∈ xs, ∀ ρ', I (wipeR ρ' vs) → ∃ y ρ'', f x ρ' = some ([y], ρ'') ∧ I (wipeR ρ'' vs) ∧ Pd y) →
    ∃ ys ρ', compLoop f xs ρ = some (ys, ρ') ∧ I (wipeR ρ' vs) ∧ ys.length = xs.length ∧ ∀ y ∈ ys, Pd y
  | [], ρ, i, _ => ⟨[], ρ, rfl, i, rfl, fun y h => nomatch h⟩
  | x :: xs, ρ, i, h => by
    obtain ⟨y, ρ1, e1, i1, p1⟩ := h x List.mem_cons_self ρ i
    obtain ⟨ys, ρ2, e2, i2, l2, p2⟩ := comp_loopI (f := f) (vs := vs) (xs := xs) (ρ := ρ1) i1 fun z hz => h z (List.mem_cons_of_mem _ hz)
    refine ⟨y :: ys, ρ2, ?_, i2, congrArg (· + 1) l2, fun z hz => ?_⟩
    · show ((f x ρ).bind fun p => (compLoop f xs p.2).bind fun q => some (p.1 ++ q.1, q.2)) = _
      rw [e1]
      show ((compLoop f xs ρ1).bind fun q => some ([y] ++ q.1, q.2)) = _
      rw [e2]
      rfl
    · rcases List.mem_cons.mp hz with rfl | hz
      · exact p1
      · exact p2 z hz
theorem back_wiped {ρ ρ' : Ro} {vs : List Nat} : back ρ ρ' vs = back ρ (wipeR ρ' vs) vs := by
  apply List.ext_getElem?
  intro j
  by_cases hj : j ∈ vs
  · by_cases hs : j < ρ'.length
    · obtain ⟨x, hx⟩ : ∃ x, (back ρ ρ' vs)[j]? = some x := ⟨_, List.getElem?_eq_getElem (by rw [back_len]; exact hs)⟩
      obtain ⟨y, hy⟩ : ∃ x, (back ρ (wipeR ρ' vs) vs)[j]? = some x := ⟨_, List.getElem?_eq_getElem (by rw [back_len, wipeR_len]; exact hs)⟩
      rw [hx, hy, back_in hj hx, back_in hj hy]
    · rw [List.getElem?_eq_none (by rw [back_len]; omega), List.getElem?_eq_none (by rw [back_len, wipeR_len]; omega)]
  · rw [back_out hj, back_out hj, wipeR_out hj]
/-- [elt for t in it], the state kept by I -/
theorem comp_evI {C : Call} {vs : List Nat} {t : Tg} {it : It} {elt : IE} {ρ ρ1 : Ro} {xs : List D} (I : Ro → Prop) (Pd : D → Prop) (hi : evI C it ρ = some (xs, ρ1)) (no : noOw ρ1 vs = true) (hl : xs.length ≤ sizeLine) (h0 : I (wipeR ρ1 vs))
    (hb : ∀ x ∈ xs, ∀ ρw, I ρw → ∃ ρ2 y ρ'', asgT t x ρw = some ρ2 ∧ evE C elt ρ2 = some (y, ρ'') ∧ I (wipeR ρ'' vs) ∧ Pd y) : ∃ ys ρw, evE C (.comp vs t it .nil elt) ρ = some (.list ys, back ρ1 ρw vs) ∧ I ρw ∧ ys.length = xs.length ∧ ∀ y ∈ ys, Pd y := by
  obtain ⟨ys, ρ', e, i, l, p⟩ := comp_loopI (f := turnF C t .nil elt vs) (vs := vs) (I := I) (Pd := Pd) (xs := xs) (ρ := ρ1) h0 fun x hx ρ' hI => by
    obtain ⟨ρ2, y, ρ'', a, b, c, d⟩ := hb x hx _ hI
    refine ⟨y, ρ'', ?_, c, d⟩
    show ((asgT t x (wipeR ρ' vs)).bind fun ρ1 => (evCs C .nil ρ1).bind fun q => if q.1 then (evE C elt q.2).map fun r => ([r.1], r.2) else some ([], q.2)) = _
    rw [a]
    show ((evE C elt ρ2).map fun r => ([r.1], r.2)) = _
    rw [b]
    rfl
  refine ⟨ys, wipeR ρ' vs, ?_, i, l, p⟩
  show ((evI C it ρ).bind fun p => if noOw p.2 vs then (fitsL p.1).bind fun xs => (compLoop (turnF C t .nil elt vs) xs p.2).map fun q => (PyData.list q.1, back p.2 q.2 vs) else none) = _
  rw [hi]
  show (if noOw ρ1 vs = true then (fitsL xs).bind fun xs => (compLoop (turnF C t .nil elt vs) xs ρ1).map fun q => (PyData.list q.1, back ρ1 q.2 vs) else none) = _
  rw [if_pos no]
  unfold fitsL
  rw [if_pos hl]
  show ((compLoop (turnF C t .nil elt vs) xs ρ1).map fun q => (PyData.list q.1, back ρ1 q.2 vs)) = _
  rw [e, ← back_wiped]
  rfl

/-! ### sorting -/
theorem sort_perm (xs : List D) : (sortD xs).Perm xs := List.mergeSort_perm _ _
def sndD : D → D
  | .tuple [_, b] => b
  | _ => .none
def natD : D → Nat
  | .int i => i.toNat
  | _ => 0
theorem perm_image {l : List D} {ns : List Nat} (h : l.Perm (ns.map fun k : Nat => .int k)) : ∃ os : List Nat, os.Perm ns ∧ l = os.map fun k : Nat => .int k := by
  refine ⟨l.map natD, ?_, ?_⟩
  · have := h.map natD
    rw [List.map_map] at this
    have e : (natD ∘ fun k : Nat => (.int k : D)) = id := by funext k; simp [natD]
    rw [e, List.map_id] at this
    exact this
  · rw [List.map_map]
    conv => lhs; rw [← List.map_id l]
    apply List.map_congr_left
    intro x hx
    have := h.mem_iff.mp hx
    obtain ⟨k, _, rfl⟩ := List.mem_map.mp this
    simp [natD]
theorem strsOf_map2 (ls : List (List Nat)) : strsOf (ls.map (PyData.str ∘ tx)) = some (ls.map tx) := by
  rw [← List.map_map]
  exact strsOf_map _
theorem flatten_one (cs : List Nat) : (cs.map fun c => [c]).flatten = cs := by
  induction cs with
  | nil => rfl
  | cons c cs ih => rw [List.map_cons, List.flatten_cons, ih]; rfl
theorem strsOf_one (cs : List Nat) : strsOf (cs.map fun c => PyData.str (tx [c])) = some ((cs.map fun c => [c]).map tx) := by
  have : (cs.map fun c => PyData.str (tx [c])) = ((cs.map fun c => [c]).map tx).map PyData.str := by
    rw [List.map_map, List.map_map]
    rfl
  rw [this]
  exact strsOf_map _
/-- the signs of a text joined again -/
theorem join_one (cs : List Nat) (h : cs.length ≤ sizeLine) : joinF ⟨#[]⟩ ((cs.map fun c => [c]).map tx) = some (.str (tx cs)) := by
  rw [join_ok _ (by rw [flatten_one]; exact h), flatten_one]
theorem getD_at {ks : List Nat} {k : Nat} (h : k < ks.length) : ks[k]? = some (ks.getD k 0) := by
  rw [List.getD_eq_getElem?_getD, List.getElem?_eq_getElem h]
  rfl
theorem filterMap_get (ts : List Nat) (js : List Nat) (h : ∀ j ∈ js, j < ts.length) : js.filterMap (ts[·]?) = js.map (ts.getD · 0) := by
  induction js with
  | nil => rfl
  | cons j js ih =>
    rw [List.filterMap_cons, getD_at (h j List.mem_cons_self), List.map_cons, ih fun i hi => h i (List.mem_cons_of_mem _ hi)]
/-- the signs at places that are told by a test -/
theorem pick_signs (ts : List Nat) (p : Nat → Bool) : (rangeI 0 ts.length 1).flatMap (fun x => if p (natD x) = true then [PyData.str (tx [ts.getD (natD x) 0])] else []) = (((List.range ts.length).filter p).filterMap (ts[·]?)).map fun c => PyData.str (tx [c]) := by
  rw [filterMap_get ts _ fun j hj => List.mem_range.mp (List.mem_filter.mp hj).1]
  unfold rangeI
  rw [List.flatMap_map, List.map_map]
  have e : (fun a : Nat => (if p (natD (PyData.int (0 + (a : Int) * 1))) = true then [PyData.str (tx [ts.getD (natD (PyData.int (0 + (a : Int) * 1))) 0])] else [])) = fun a => if p a = true then [PyData.str (tx [ts.getD a 0])] else [] := by
    funext a
    simp [natD]
  rw [e, flat_filter]
  rfl
/-- two clauses that leave the slots as they are -/
theorem comp2_ev {C : Call} {vs vs1 : List Nat} {t t1 : Tg} {it it1 : It} {cs cs1 : IEs} {elt : IE} {ρ ρ1 : Ro} {xs : List D} (g : D → List D) (hi : evI C it ρ = some (xs, ρ1)) (no : noOw ρ1 vs = true) (hl : (xs.flatMap g).length ≤ sizeLine) (hv : ∀ i ∈ vs1, i ∈ vs)
    (hb : ∀ x ∈ xs, ∃ ρa ρb ρc xs1 h, asgT t x (wipeR ρ1 vs) = some ρa ∧ evCs C cs ρa = some (true, ρb) ∧ evI C it1 ρb = some (xs1, ρc) ∧ wipeR ρc vs = wipeR ρ1 vs ∧ xs1.flatMap h = g x ∧
      ∀ y ∈ xs1, ∃ ρ'', bodyF C t1 cs1 elt y (wipeR ρc vs1) = some (h y, ρ'') ∧ wipeR ρ'' vs1 = wipeR ρc vs1) : evE C (.comp2 vs t it cs vs1 t1 it1 cs1 elt) ρ = some (.list (xs.flatMap g), ρ1) := by
  show ((evI C it ρ).bind fun p => if noOw p.2 vs then (compLoop (turnF2 C t cs it1 (turnF C t1 cs1 elt vs1) vs) p.1 p.2).bind fun q => (fitsL q.1).map fun ys => (PyData.list ys, back p.2 q.2 vs) else none) = _
  rw [hi]
  show (if noOw ρ1 vs = true then (compLoop (turnF2 C t cs it1 (turnF C t1 cs1 elt vs1) vs) xs ρ1).bind fun q => (fitsL q.1).map fun ys => (PyData.list ys, back ρ1 q.2 vs) else none) = _
  rw [if_pos no]
  obtain ⟨ρ', e, w⟩ := comp_loop (f := turnF2 C t cs it1 (turnF C t1 cs1 elt vs1) vs) (vs := vs) (g := g) (xs := xs) (ρ := ρ1) fun x hx ρ' hw => by
    obtain ⟨ρa, ρb, ρc, xs1, h, a1, a2, a3, a4, a5, a6⟩ := hb x hx
    obtain ⟨ρd, e, w2⟩ := comp_loop (f := turnF C t1 cs1 elt vs1) (vs := vs1) (g := h) (xs := xs1) (ρ := ρc) fun y hy ρ2 hw2 => by
      obtain ⟨ρ'', b1, b2⟩ := a6 y hy
      refine ⟨ρ'', ?_, b2⟩
      show bodyF C t1 cs1 elt y (wipeR ρ2 vs1) = _
      rw [hw2]
      exact b1
    refine ⟨ρd, ?_, ?_⟩
    · show ((asgT t x (wipeR ρ' vs)).bind fun ρ1 => (evCs C cs ρ1).bind fun q => if q.1 then (evI C it1 q.2).bind fun p1 => compLoop (turnF C t1 cs1 elt vs1) p1.1 p1.2 else some ([], q.2)) = _
      rw [hw, a1]
      show ((evCs C cs ρa).bind fun q => if q.1 then (evI C it1 q.2).bind fun p1 => compLoop (turnF C t1 cs1 elt vs1) p1.1 p1.2 else some ([], q.2)) = _
      rw [a2]
      show ((evI C it1 ρb).bind fun p1 => compLoop (turnF C t1 cs1 elt vs1) p1.1 p1.2) = _
      rw [a3]
      show compLoop (turnF C t1 cs1 elt vs1) xs1 ρc = _
      rw [e, a5]
    · rw [← wipeR_wipeR (ρ := ρd) hv, w2, wipeR_wipeR hv]
      exact a4
  rw [e]
  show ((fitsL (xs.flatMap g)).map fun ys => (PyData.list ys, back ρ1 ρ' vs)) = _
  unfold fitsL
  rw [if_pos hl]
  show some (PyData.list (xs.flatMap g), back ρ1 ρ' vs) = _
  rw [back_wipe w]
/-! ### tuples of numbers -/
def rowD (row : List Nat) : D := .tuple (row.map fun k : Nat => .int k)
theorem ints_plain : ∀ row : List Nat, PyData.plainAll (row.map fun k : Nat => (.int k : D)) = true ∧ PyData.depthAll (row.map fun k : Nat => (.int k : D)) ≤ 1
  | [] => ⟨rfl, by simp [PyData.depthAll]⟩
  | k :: row => by
    obtain ⟨h1, h2⟩ := ints_plain row
    refine ⟨?_, ?_⟩
    · rw [List.map_cons]
      simp only [PyData.plainAll, PyData.plain, h1, Bool.and_self]
    · rw [List.map_cons]
      simp only [PyData.depthAll, PyData.depth]
      omega
theorem in_row (k : Nat) (row : List Nat) : inF (.int k) (rowD row) = some (row.contains k) := by
  obtain ⟨h1, h2⟩ := ints_plain row
  have ok1 : okD (.int (k : Int)) = true := rfl
  have ok2 : okD (.tuple (row.map fun k : Nat => (.int k : D))) = true := by
    unfold okD
    rw [Bool.and_eq_true]
    refine ⟨?_, decide_eq_true ?_⟩
    · simp only [PyData.plain, h1]
    · simp only [PyData.depth]
      omega
  show (if (okD (.int (k : Int)) && okD (.tuple (row.map fun k : Nat => (.int k : D)))) = true then some ((row.map fun k : Nat => (.int k : D)).any fun z => PyData.eqv z (.int k)) else none) = _
  rw [ok1, ok2]
  show some ((row.map fun k : Nat => (.int k : D)).any fun z => PyData.eqv z (.int k)) = _
  congr 1
  rw [List.any_map, List.contains_eq_any_beq]
  congr 1
  funext z
  have : PyData.eqv (.int (z : Int)) (.int (k : Int)) = decide ((z : Int) = k) := by first | rfl | simp [PyData.eqv]
  show PyData.eqv (.int (z : Int)) (.int (k : Int)) = _
  rw [this]
  by_cases e : z = k
  · subst e; simp
  · have e2 : ¬ ((z : Int) = k) := by omega
    have e3 : ¬ k = z := fun q => e q.symm
    simp [e2, e, e3]
end DV
end

section
namespace DV
open PySem
/-- the shorter helper that compares -/
def fiSame (me : Nat) : Fi := { io := [false, false], slots := 3, body := (.cons (.iff (.prim (.isi "tuple") (.cons (.var 1) .nil)) (.cons (.iff (.or (.not (.prim (.isi "tuple") (.cons (.var 0) .nil))) (.prim (.cmp .NotEq) (.cons (.prim .len (.cons (.var 0) .nil)) (.cons (.prim .len (.cons (.var 1) .nil)) .nil)))) (.cons (.ret (.con (.bool false))) .nil) .nil) (.cons (.ret (.prim (.cmp .Eq) (.cons (.comp [2] (.nm 2) (.rng (.cons (.prim .len (.cons (.var 1) .nil)) .nil)) (.cons (.not (.call me (.cons (.prim .ix (.cons (.var 0) (.cons (.var 2) .nil))) (.cons (.prim .ix (.cons (.var 1) (.cons (.var 2) .nil))) .nil)))) .nil) (.var 2)) (.cons (.lst .nil) .nil)))) .nil)) .nil) (.cons (.iff (.prim .isN (.cons (.var 1) .nil)) (.cons (.ret (.prim .isN (.cons (.var 0) .nil))) .nil) .nil) (.cons (.iff (.prim (.isi "str") (.cons (.var 1) .nil)) (.cons (.ret (.and (.prim (.isi "str") (.cons (.var 0) .nil)) (.prim (.cmp .Eq) (.cons (.var 0) (.cons (.var 1) .nil))))) .nil) .nil) (.cons (.ret (.and (.prim (.isi "int") (.cons (.var 0) .nil)) (.and (.prim (.cmp .Eq) (.cons (.prim (.isi "bool") (.cons (.var 0) .nil)) (.cons (.prim (.isi "bool") (.cons (.var 1) .nil)) .nil))) (.prim (.cmp .Eq) (.cons (.var 0) (.cons (.var 1) .nil)))))) .nil)))) }
theorem same_ok {T : List Fi} {f : Nat} (h : T[f]? = some (fiSame f)) : ∀ (m : Nat) (d : D), alD d = true → dpD d ≤ m → ∀ n, evF T (n + m + 1) f [d, d] = some (.bool true, []) := by
  intro m
  induction m with
  | zero =>
    intro d ha hd n
    refine call_of h [.sh d, .sh d] rfl (ρ' := [.sh d, .sh d, .no]) ?_ rfl
    show exSs _ (fiSame f).body [.sh d, .sh d, .no] = _
    unfold fiSame
    cases d with
    | tuple xs => exact absurd hd (by simp [dpD])
    | list xs => cases ha
    | dict xs => cases ha
    | none => simp [ex_cons]
    | bool b => simp [ex_cons]
    | int b => simp [ex_cons]
    | str b => simp [ex_cons]
  | succ m ih =>
    intro d ha hd n
    refine call_of h [.sh d, .sh d] rfl (ρ' := [.sh d, .sh d, .no]) ?_ rfl
    show exSs _ (fiSame f).body [.sh d, .sh d, .no] = _
    unfold fiSame
    cases d with
    | tuple xs =>
      have ha : (alDs xs && decide (xs.length ≤ 1000000)) = true := ha
      rw [Bool.and_eq_true] at ha
      have hsz := of_decide_eq_true ha.2
      have hd : dpDs xs + 1 ≤ m + 1 := hd
      have rx : rngIn (xs.length : Int) = true := by unfold rngIn; simp; omega
      have hc : evE (evF T (n + (m + 1))) (.comp [2] (.nm 2) (.rng (.cons (.prim .len (.cons (.var 1) .nil)) .nil)) (.cons (.not (.call f (.cons (.prim .ix (.cons (.var 0) (.cons (.var 2) .nil))) (.cons (.prim .ix (.cons (.var 1) (.cons (.var 2) .nil))) .nil)))) .nil) (.var 2)) [.sh (.tuple xs), .sh (.tuple xs), .no] = some (.list [], [.sh (.tuple xs), .sh (.tuple xs), .no]) := by
        have q := comp_ev (C := evF T (n + (m + 1))) (vs := [2]) (t := .nm 2) (it := (.rng (.cons (.prim .len (.cons (.var 1) .nil)) .nil))) (cs := (.cons (.not (.call f (.cons (.prim .ix (.cons (.var 0) (.cons (.var 2) .nil))) (.cons (.prim .ix (.cons (.var 1) (.cons (.var 2) .nil))) .nil)))) .nil)) (elt := .var 2) (ρ := [.sh (.tuple xs), .sh (.tuple xs), .no]) (ρ1 := [.sh (.tuple xs), .sh (.tuple xs), .no]) (xs := rangeI 0 xs.length 1) (fun _ => []) (by simp [rx]) rfl (by rw [rangeI_len, sizeLine_eq]; omega) (fun x hx => by
          obtain ⟨k, hk, rfl⟩ := rangeI_mem hx
          obtain ⟨y, hy⟩ : ∃ y, xs[k]? = some y := ⟨_, List.getElem?_eq_getElem hk⟩
          obtain ⟨a1, a2⟩ := alDs_mem ha.1 (List.mem_of_getElem? hy)
          have e := ih y a1 (by omega) n
          refine ⟨[.sh (.tuple xs), .sh (.tuple xs), .sh (.int k)], ?_, rfl⟩
          have ei := atI_nat hy
          show bodyF _ _ _ _ _ [.sh (.tuple xs), .sh (.tuple xs), .no] = _
          simp [bodyF, ei, show n + (m + 1) = n + m + 1 from rfl, e])
        rw [q]
        simp
      simp [ex_cons, hc, eqNil]
    | list xs => cases ha
    | dict xs => cases ha
    | none => simp [ex_cons]
    | bool b => simp [ex_cons]
    | int b => simp [ex_cons]
    | str b => simp [ex_cons]
end DV
end

section
/-! shorter rules: runs over lists of any make, dicts by their keys -/
namespace DV
open PySem
theorem call_eq {T : List Fi} {n f : Nat} {fi : Fi} {ds : List D} {d : D} {os : List D} (h : T[f]? = some fi) (ρ0 : Ro) (h1 : inSl fi.io ds = some ρ0) (h2 : Run (evF T n) fi.body (ρ0 ++ List.replicate (fi.slots - ds.length) .no) fun fl => ∃ ρ', fl = .rt d ρ' ∧ outSl fi.io ρ' = some os) : evF T (n + 1) f ds = some (d, os) := by
  obtain ⟨fl, e, ρ', rfl, e3⟩ := h2
  exact call_of h ρ0 h1 e e3
section
variable {C : Call} {s : IS} {ss : ISs} {ρ ρ' : Ro} {P : Fl → Prop}
theorem run_ite {c : IE} {a b : ISs} {k : Bool} (h : evE C c ρ = some (.bool k, ρ')) (ht : k = true → Run C a ρ' fun fl => match fl with | .nx ρ'' => Run C ss ρ'' P | fl => P fl) (hf : k = false → Run C b ρ' fun fl => match fl with | .nx ρ'' => Run C ss ρ'' P | fl => P fl) : Run C (.cons (.iff c a b) ss) ρ P := by
  refine run_if h rfl ?_
  cases k
  · exact hf rfl
  · exact ht rfl
theorem run_rt {e : IE} {r : D × Ro} (h : evE C e ρ = some r) (hp : P (.rt r.1 r.2)) : Run C (.cons (.ret e) ss) ρ P := run_step (by rw [ex_ret, h]; exact hp)
/-- an if that is a plain update -/
theorem run_iteI {c : IE} {a b : ISs} {k : Bool} (I : Ro → Prop) (h : evE C c ρ = some (.bool k, ρ')) (ht : k = true → Run C a ρ' fun fl => ∃ ρ'', fl = .nx ρ'' ∧ I ρ'') (hf : k = false → Run C b ρ' fun fl => ∃ ρ'', fl = .nx ρ'' ∧ I ρ'') (h3 : ∀ ρ'', I ρ'' → Run C ss ρ'' P) : Run C (.cons (.iff c a b) ss) ρ P := by
  refine run_ifI I h rfl ?_ h3
  cases k
  · exact hf rfl
  · exact ht rfl
theorem for_G {α : Type} {f : D → Ro → Option Fl} {emb : α → D} {l : List α} {I : List α → Ro → Prop} {J : Ro → Prop} {R : Fl → Prop} : ∀ {xs pre : List α} {ρ : Ro}, l = pre ++ xs → I pre ρ → (∀ ys a zs ρ', l = ys ++ a :: zs → I ys ρ' → ∃ fl, f (emb a) ρ' = some fl ∧ match fl with | .nx ρ'' => I (ys ++ [a]) ρ'' | .ct ρ'' => I (ys ++ [a]) ρ'' | .bk ρ'' => J ρ'' | .rt d ρ'' => R (.rt d ρ'')) →
    ∃ fl, forLoop f (xs.map emb) ρ = some fl ∧ ((∃ ρ', fl = .nx ρ' ∧ (I l ρ' ∨ J ρ')) ∨ ∃ d ρ', fl = .rt d ρ' ∧ R fl)
  | [], pre, ρ, hl, h0, _ => ⟨.nx ρ, rfl, .inl ⟨ρ, rfl, .inl (by rw [hl, List.append_nil]; exact h0)⟩⟩
  | a :: xs, pre, ρ, hl, h0, h => by
    obtain ⟨fl, e1, i1⟩ := h pre a xs ρ hl h0
    have er : forLoop f ((a :: xs).map emb) ρ = (f (emb a) ρ).bind fun r => match r with
      | .nx ρ' => forLoop f (xs.map emb) ρ'
      | .ct ρ' => forLoop f (xs.map emb) ρ'
      | .bk ρ' => some (.nx ρ')
      | .rt d ρ' => some (.rt d ρ') := rfl
    rw [er, e1]
    cases fl with
    | nx ρ1 => exact for_G (by rw [hl]; simp) i1 h
    | ct ρ1 => exact for_G (by rw [hl]; simp) i1 h
    | bk ρ1 => exact ⟨_, rfl, .inl ⟨_, rfl, .inr i1⟩⟩
    | rt d ρ1 => exact ⟨_, rfl, .inr ⟨_, _, rfl, i1⟩⟩
/-- a loop over a list of any make -/
theorem run_forG {α : Type} {t : Tg} {it : It} {b : ISs} (l : List α) (emb : α → D) (I : List α → Ro → Prop) (J : Ro → Prop) (hi : evI C it ρ = some (l.map emb, ρ')) (h0 : I [] ρ')
    (ht : ∀ ys a zs ρ', l = ys ++ a :: zs → I ys ρ' → ∃ ρ1, asgT t (emb a) ρ' = some ρ1 ∧ Run C b ρ1 fun fl => match fl with | .nx ρ'' => I (ys ++ [a]) ρ'' | .ct ρ'' => I (ys ++ [a]) ρ'' | .bk ρ'' => J ρ'' | .rt d ρ'' => P (.rt d ρ''))
    (h2 : ∀ ρ', I l ρ' ∨ J ρ' → Run C ss ρ' P) : Run C (.cons (.for_ t it b) ss) ρ P := by
  obtain ⟨fl, e, h⟩ := for_G (f := forF C t b) (emb := emb) (l := l) (I := I) (J := J) (R := P) (xs := l) (pre := []) rfl h0 fun ys a zs ρ' hl hI => by
    obtain ⟨ρ1, a1, fl, a2, a3⟩ := ht ys a zs ρ' hl hI
    refine ⟨fl, ?_, a3⟩
    show ((asgT t (emb a) ρ').bind fun ρ1 => exSs C b ρ1) = _
    rw [a1]
    exact a2
  refine run_step ?_
  rw [ex_for, hi]
  show match forLoop (forF C t b) (l.map emb) ρ' with | some (.nx ρ') => Run C ss ρ' P | some fl => P fl | none => False
  rw [e]
  rcases h with ⟨ρ', rfl, h⟩ | ⟨d, ρ', rfl, h⟩
  · exact h2 ρ' h
  · exact h
theorem run_forA {α : Type} {t : Tg} {it : It} {b : ISs} (l : List α) (emb : α → D) (I : List α → Ro → Prop) (hi : evI C it ρ = some (l.map emb, ρ')) (h0 : I [] ρ')
    (ht : ∀ ys a zs ρ', l = ys ++ a :: zs → I ys ρ' → ∃ ρ1, asgT t (emb a) ρ' = some ρ1 ∧ Run C b ρ1 fun fl => match fl with | .nx ρ'' => I (ys ++ [a]) ρ'' | .ct ρ'' => I (ys ++ [a]) ρ'' | .bk _ => False | .rt d ρ'' => P (.rt d ρ''))
    (h2 : ∀ ρ', I l ρ' → Run C ss ρ' P) : Run C (.cons (.for_ t it b) ss) ρ P :=
  run_forG l emb I (fun _ => False) hi h0 ht fun ρ' h => h.elim (h2 ρ') fun q => q.elim
end
/-- [h x for x in l if p x] -/
theorem comp_fm {α : Type} {C : Call} {vs : List Nat} {t : Tg} {it : It} {cs : IEs} {elt : IE} {ρ : Ro} (l : List α) (emb : α → D) (p : α → Bool) (h : α → D) (hi : evI C it ρ = some (l.map emb, ρ)) (no : noOw ρ vs = true) (hl : l.length ≤ sizeLine)
    (hb : ∀ a ∈ l, ∃ ρ2, asgT t (emb a) (wipeR ρ vs) = some ρ2 ∧ wipeR ρ2 vs = wipeR ρ vs ∧ evCs C cs ρ2 = some (p a, ρ2) ∧ (p a = true → evE C elt ρ2 = some (h a, ρ2))) : evE C (.comp vs t it cs elt) ρ = some (.list ((l.filter p).map h), ρ) := by
  show ((evI C it ρ).bind fun p => if noOw p.2 vs then (fitsL p.1).bind fun xs => (compLoop (turnF C t cs elt vs) xs p.2).map fun q => (PyData.list q.1, back p.2 q.2 vs) else none) = _
  rw [hi]
  show (if noOw ρ vs = true then (fitsL (l.map emb)).bind fun xs => (compLoop (turnF C t cs elt vs) xs ρ).map fun q => (PyData.list q.1, back ρ q.2 vs) else none) = _
  rw [if_pos no]
  unfold fitsL
  rw [if_pos (by rw [List.length_map]; exact hl)]
  show ((compLoop (turnF C t cs elt vs) (l.map emb) ρ).map fun q => (PyData.list q.1, back ρ q.2 vs)) = _
  have key : ∀ (m : List α) (ρ1 : Ro), (∀ a ∈ m, a ∈ l) → wipeR ρ1 vs = wipeR ρ vs → ∃ ρ', compLoop (turnF C t cs elt vs) (m.map emb) ρ1 = some ((m.filter p).map h, ρ') ∧ wipeR ρ' vs = wipeR ρ vs := by
    intro m
    induction m with
    | nil => exact fun ρ1 _ hw => ⟨ρ1, rfl, hw⟩
    | cons a m ih =>
      intro ρ1 hm hw
      obtain ⟨ρ2, a1, a2, a3, a4⟩ := hb a (hm a List.mem_cons_self)
      obtain ⟨ρ3, b1, b2⟩ := ih ρ2 (fun b hb => hm b (List.mem_cons_of_mem _ hb)) a2
      refine ⟨ρ3, ?_, b2⟩
      have ef : turnF C t cs elt vs (emb a) ρ1 = some (if p a = true then [h a] else [], ρ2) := by
        show ((asgT t (emb a) (wipeR ρ1 vs)).bind fun ρ1 => (evCs C cs ρ1).bind fun q => if q.1 then (evE C elt q.2).map fun r => ([r.1], r.2) else some ([], q.2)) = _
        rw [hw, a1]
        show ((evCs C cs ρ2).bind fun q => if q.1 then (evE C elt q.2).map fun r => ([r.1], r.2) else some ([], q.2)) = _
        rw [a3]
        show (if p a = true then (evE C elt ρ2).map fun r => ([r.1], r.2) else some ([], ρ2)) = _
        by_cases hp : p a = true
        · rw [if_pos hp, if_pos hp, a4 hp]
          rfl
        · rw [if_neg hp, if_neg hp]
      show ((turnF C t cs elt vs (emb a) ρ1).bind fun q => (compLoop (turnF C t cs elt vs) (m.map emb) q.2).bind fun r => some (q.1 ++ r.1, r.2)) = _
      rw [ef]
      show ((compLoop (turnF C t cs elt vs) (m.map emb) ρ2).bind fun r => some ((if p a = true then [h a] else []) ++ r.1, r.2)) = _
      rw [b1]
      show some ((if p a = true then [h a] else []) ++ (m.filter p).map h, ρ3) = _
      rw [List.filter_cons]
      by_cases hp : p a = true
      · rw [if_pos hp, if_pos hp]
        rfl
      · rw [if_neg hp, if_neg hp]
        rfl
  obtain ⟨ρ', e, w⟩ := key l ρ (fun _ h => h) rfl
  rw [e]
  show some (PyData.list ((l.filter p).map h), back ρ ρ' vs) = _
  rw [back_wipe w]
/-- [h x for x in l] -/
theorem comp_m {α : Type} {C : Call} {vs : List Nat} {t : Tg} {it : It} {elt : IE} {ρ : Ro} (l : List α) (emb : α → D) (h : α → D) (hi : evI C it ρ = some (l.map emb, ρ)) (no : noOw ρ vs = true) (hl : l.length ≤ sizeLine)
    (hb : ∀ a ∈ l, ∃ ρ2, asgT t (emb a) (wipeR ρ vs) = some ρ2 ∧ wipeR ρ2 vs = wipeR ρ vs ∧ evE C elt ρ2 = some (h a, ρ2)) : evE C (.comp vs t it .nil elt) ρ = some (.list (l.map h), ρ) := by
  have := comp_fm (cs := .nil) l emb (fun _ => true) h hi no hl fun a ha => by
    obtain ⟨ρ2, a1, a2, a3⟩ := hb a ha
    exact ⟨ρ2, a1, a2, rfl, fun _ => a3⟩
  rw [List.filter_eq_self.mpr fun _ _ => rfl] at this
  exact this
theorem nat_inj (a b : Nat) : ((a : Int) = (b : Int)) = (a = b) := by
  apply propext
  omega
theorem rng_down {t b : Int} (h : b ≤ t) (h1 : rngIn t = true) (h2 : rngIn b = true) : rngF [.int t, .int b, .int (-1)] = some ((List.range (t - b).toNat).map fun k : Nat => .int (t - k)) := by
  show (if (rngIn t && rngIn b && decide ((-1 : Int) ≠ 0) && decide ((-1 : Int).natAbs < 1073741824)) = true then some (rangeI t (Builtin.Range.rangeSize t b (-1)).toNat (-1)) else none) = _
  rw [h1, h2]
  show some (rangeI t (Builtin.Range.rangeSize t b (-1)).toNat (-1)) = _
  have e : (Builtin.Range.rangeSize t b (-1)).toNat = (t - b).toNat := by
    unfold Builtin.Range.rangeSize
    rw [if_neg (by decide)]
    by_cases c : t > b
    · rw [if_pos c]
      have : (t - b - 1) / (-(-1)) = t - b - 1 := by rw [show (-(-1) : Int) = 1 from rfl, Int.ediv_one]
      rw [this]
      omega
    · rw [if_neg c]
      omega
  rw [e]
  unfold rangeI
  congr 1
  apply List.map_congr_left
  intro k _
  congr 1
  omega
def downTo (n : Nat) : List Nat := (List.range n).map fun k => n - 1 - k
theorem down_at {n b : Nat} {ys zs : List Nat} (h : downTo n = ys ++ b :: zs) : ys.length < n ∧ b = n - 1 - ys.length := by
  have hl := congrArg List.length h
  rw [downTo, List.length_map, List.length_range, List.length_append, List.length_cons] at hl
  have := congrArg (fun l : List Nat => l[ys.length]?) h
  simp only [downTo] at this
  rw [List.getElem?_append_right (Nat.le_refl _), List.getElem?_map, List.getElem?_range (by omega)] at this
  simp at this
  exact ⟨by omega, this.symm⟩
theorem rng_downTo {n : Nat} (h : n ≤ 100000) : rngF [.int ((n : Int) - 1), .int (-1), .int (-1)] = some ((downTo n).map fun k : Nat => .int k) := by
  rw [rng_down (by omega) (by unfold rngIn; exact decide_eq_true (by omega)) (by decide)]
  unfold downTo
  rw [List.map_map, show ((n : Int) - 1 - -1).toNat = n by omega]
  congr 1
  apply List.map_congr_left
  intro k hk
  have := List.mem_range.mp hk
  show PyData.int ((n : Int) - 1 - k) = .int ((n - 1 - k : Nat) : Int)
  congr 1
  omega
theorem rangeI_up (n : Nat) : rangeI 0 n 1 = (List.range n).map fun k : Nat => .int k := by
  unfold rangeI
  apply List.map_congr_left
  intro k _
  simp
/-! ### dicts by their keys -/
structure KeyFn {α : Type} (key : α → D) : Prop where
  inj : ∀ a b, keyN (key a) = keyN (key b) → a = b
  ok : ∀ (kvs : List (D × D)) a, (∀ p ∈ kvs, ∃ a, p.1 = key a) → keyOk kvs (key a) = true
theorem keyAtom {α : Type} {key : α → D} (h : ∀ a, (atomK (key a)).isSome = true) (hi : ∀ a b, keyN (key a) = keyN (key b) → a = b) : KeyFn key := ⟨hi, fun kvs a hk => by
  unfold keyOk
  rw [Bool.or_eq_true]
  left
  rw [h a, Bool.true_and, List.all_eq_true]
  intro p hp
  obtain ⟨b, e⟩ := hk p hp
  rw [e]
  exact h b⟩
def intK (k : Int) : D := .int k
def natK (k : Nat) : D := .int k
def strK (s : Str) : D := .str s
theorem key_int : KeyFn intK := keyAtom (fun _ => rfl) fun a b h => by
  have h : some (NestedKey.num a) = some (NestedKey.num b) := h
  injection h with h
  injection h
theorem key_nat : KeyFn natK := keyAtom (fun _ => rfl) fun a b h => by
  have h : some (NestedKey.num (a : Int)) = some (NestedKey.num (b : Int)) := h
  injection h with h
  injection h with h
  omega
theorem key_str : KeyFn strK := keyAtom (fun _ => rfl) fun a b h => by
  have h : some (NestedKey.text a) = some (NestedKey.text b) := h
  injection h with h
  injection h
section
variable {α : Type} {key : α → D} {kvs : List (D × D)} {f : α → Option D} {n : Nat}
theorem KeyFn.same [DecidableEq α] (h : KeyFn key) (a b : α) : sameK (key a) (key b) = decide (a = b) := by
  unfold sameK
  by_cases e : a = b
  · subst e; simp
  · rw [decide_eq_false e, decide_eq_false fun q => e (h.inj _ _ q)]
/-- a dict whose keys are of one make -/
structure KD {α : Type} (key : α → D) (kvs : List (D × D)) (f : α → Option D) (n : Nat) : Prop where
  keys : ∀ p ∈ kvs, ∃ a, p.1 = key a
  get : ∀ a, dget kvs (key a) = f a
  len : kvs.length ≤ n
theorem KD.nil : KD key [] (fun _ => none) 0 := ⟨fun p h => (nomatch h), fun _ => rfl, Nat.le_refl _⟩
theorem KD.single [DecidableEq α] (hk : KeyFn key) (a : α) (v : D) : KD key [(key a, v)] (fun b => if b = a then some v else none) 1 := ⟨fun p hp => ⟨a, by rw [List.mem_singleton.mp hp]⟩, fun b => by
  unfold dget
  rw [List.find?_cons]
  show (match sameK (key a) (key b) with | true => _ | false => _ : Option (D × D)).map _ = _
  rw [hk.same]
  by_cases e : b = a
  · rw [if_pos e, decide_eq_true e.symm]
    rfl
  · rw [if_neg e, decide_eq_false fun q => e q.symm]
    rfl, Nat.le_refl _⟩
theorem KD.congr {g : α → Option D} (h : KD key kvs f n) (e : ∀ a, f a = g a) : KD key kvs g n := ⟨h.keys, fun a => (h.get a).trans (e a), h.len⟩
theorem KD.mono {m : Nat} (h : KD key kvs f n) (e : n ≤ m) : KD key kvs f m := ⟨h.keys, h.get, Nat.le_trans h.len e⟩
theorem KD.ix (h : KD key kvs f n) (hk : KeyFn key) (a : α) : ixF (.dict kvs) (key a) = f a := by
  show (if keyOk kvs (key a) = true then dget kvs (key a) else none) = _
  rw [if_pos (hk.ok kvs a h.keys), h.get]
theorem KD.in_ (h : KD key kvs f n) (hk : KeyFn key) (a : α) : inF (key a) (.dict kvs) = some (f a).isSome := by
  show (if keyOk kvs (key a) = true then some (dget kvs (key a)).isSome else none) = _
  rw [if_pos (hk.ok kvs a h.keys), h.get]
theorem KD.get1 (h : KD key kvs f n) (hk : KeyFn key) (a : α) : primF .get1 [.dict kvs, key a] = some ((f a).getD .none) := by
  show (if keyOk kvs (key a) = true then some ((dget kvs (key a)).getD .none) else none) = _
  rw [if_pos (hk.ok kvs a h.keys), h.get]
theorem dget_put [DecidableEq α] (hk : KeyFn key) (h : ∀ p ∈ kvs, ∃ a, p.1 = key a) (a b : α) (v : D) : dget (dput kvs (key a) v) (key b) = if b = a then some v else dget kvs (key b) := by
  have fnd : ∀ {p q : D × D → Bool}, (∀ x, x ∈ kvs → p x = q x) → kvs.find? p = kvs.find? q := by
    intro p q hpq
    induction kvs with
    | nil => rfl
    | cons y l ih =>
      rw [List.find?_cons, List.find?_cons, hpq y List.mem_cons_self, ih (fun p hp => h p (List.mem_cons_of_mem _ hp)) fun x hx => hpq x (List.mem_cons_of_mem _ hx)]
  unfold dput dget
  by_cases c : (kvs.any fun p => sameK p.1 (key a)) = true
  · rw [if_pos c, List.find?_map]
    have e1 : kvs.find? ((fun p : D × D => sameK p.1 (key b)) ∘ fun p => if sameK p.1 (key a) = true then (p.1, v) else p) = kvs.find? fun p => sameK p.1 (key b) := by
      refine fnd fun x _ => ?_
      show sameK (if sameK x.1 (key a) = true then (x.1, v) else x).1 (key b) = _
      by_cases d : sameK x.1 (key a) = true
      · rw [if_pos d]
      · rw [if_neg d]
    rw [e1, Option.map_map]
    by_cases e : b = a
    · subst e
      rw [if_pos rfl]
      obtain ⟨x, hx, hs⟩ := List.any_eq_true.mp c
      cases hf : kvs.find? fun p => sameK p.1 (key b) with
      | none => exact absurd hs (by have := List.find?_eq_none.mp hf x hx; simpa using this)
      | some y =>
        have := List.find?_some hf
        show some (if sameK y.1 (key b) = true then (y.1, v) else y).2 = _
        rw [if_pos this]
    · rw [if_neg e]
      cases hf : kvs.find? fun p => sameK p.1 (key b) with
      | none => rfl
      | some y =>
        have h1 := List.find?_some hf
        obtain ⟨z, hz⟩ := h y (List.mem_of_find?_eq_some hf)
        show some (if sameK y.1 (key a) = true then (y.1, v) else y).2 = some y.2
        have h1 : sameK y.1 (key b) = true := h1
        rw [hz, hk.same] at h1
        have h1 := of_decide_eq_true h1
        subst h1
        rw [hz, hk.same, decide_eq_false e]
        rfl
  · rw [if_neg c, List.find?_append]
    by_cases e : b = a
    · subst e
      rw [if_pos rfl]
      have hf : (kvs.find? fun p => sameK p.1 (key b)) = none := by
        rw [List.find?_eq_none]
        intro x hx q
        exact c (List.any_eq_true.mpr ⟨x, hx, q⟩)
      rw [hf]
      simp [hk.same]
    · rw [if_neg e]
      have : sameK (key a) (key b) = false := by
        rw [hk.same]
        exact decide_eq_false fun q => e q.symm
      simp [this]
theorem KD.put [DecidableEq α] (h : KD key kvs f n) (hk : KeyFn key) (a : α) (v : D) (hn : n < sizeLine) : ∃ kvs', dputF kvs (key a) v = some kvs' ∧ KD key kvs' (fun b => if b = a then some v else f b) (n + 1) := by
  refine ⟨dput kvs (key a) v, ?_, ⟨?_, fun b => ?_, ?_⟩⟩
  · unfold dputF
    rw [hk.ok kvs a h.keys, Bool.true_and, decide_eq_true (Nat.lt_of_le_of_lt h.len hn)]
    rfl
  · intro p hp
    unfold dput at hp
    by_cases c : (kvs.any fun p => sameK p.1 (key a)) = true
    · rw [if_pos c] at hp
      obtain ⟨q, hq, rfl⟩ := List.mem_map.mp hp
      obtain ⟨z, hz⟩ := h.keys q hq
      refine ⟨z, ?_⟩
      by_cases d : sameK q.1 (key a) = true
      · rw [if_pos d]; exact hz
      · rw [if_neg d]; exact hz
    · rw [if_neg c] at hp
      rcases List.mem_append.mp hp with hp | hp
      · exact h.keys p hp
      · rw [List.mem_singleton.mp hp]
        exact ⟨a, rfl⟩
  · rw [dget_put hk h.keys, h.get]
  · unfold dput
    have := h.len
    by_cases c : (kvs.any fun p => sameK p.1 (key a)) = true
    · rw [if_pos c, List.length_map]
      omega
    · rw [if_neg c, List.length_append]
      simp
      omega
theorem KD.set [DecidableEq α] (h : KD key kvs f n) (hk : KeyFn key) (a : α) (v : D) (hn : n < sizeLine) : ∃ kvs', setIxF (.dict kvs) (key a) v = some (.dict kvs') ∧ KD key kvs' (fun b => if b = a then some v else f b) (n + 1) := by
  obtain ⟨kvs', e, h2⟩ := h.put hk a v hn
  refine ⟨kvs', ?_, h2⟩
  show (dputF kvs (key a) v).map PyData.dict = _
  rw [e]
  rfl
end
end DV
end

section
/-! pairs of numbers, rows of them; least of rows -/
namespace DV
open PySem
def prD (p : Nat × Nat) : D := .tuple [natK p.1, natK p.2]
def rwD (r : List (Nat × Nat)) : D := .tuple (r.map prD)
theorem intsL (ns : List Int) : PyData.plainAll (ns.map .int) = true ∧ PyData.depthAll (ns.map .int) = 0 := by
  induction ns with
  | nil => exact ⟨rfl, rfl⟩
  | cons n ns ih =>
    refine ⟨?_, ?_⟩
    · rw [List.map_cons]
      simp only [PyData.plainAll, PyData.plain, ih.1, Bool.and_self]
    · rw [List.map_cons]
      simp only [PyData.depthAll, PyData.depth, ih.2]
      rfl
theorem natsL (ns : List Nat) : PyData.plainAll (ns.map natK) = true ∧ PyData.depthAll (ns.map natK) = 0 := by
  have := intsL (ns.map fun k : Nat => (k : Int))
  rw [List.map_map] at this
  exact this
theorem okInts (ns : List Int) : okD (.list (ns.map .int)) = true := by
  obtain ⟨a, b⟩ := intsL ns
  unfold okD
  simp only [PyData.plain, PyData.depth, a, b]
  rfl
theorem okNats (ns : List Nat) : okD (.list (ns.map natK)) = true := by
  obtain ⟨a, b⟩ := natsL ns
  unfold okD
  simp only [PyData.plain, PyData.depth, a, b]
  rfl
theorem eqvI (i j : Int) : PyData.eqv (.int i) (.int j) = decide (i = j) := by first | rfl | simp [PyData.eqv]
theorem in_ints (i : Int) (ns : List Int) : inF (.int i) (.list (ns.map .int)) = some (ns.contains i) := by
  show (if (okD (.int i) && okD (.list (ns.map .int))) = true then some ((ns.map PyData.int).any fun z => PyData.eqv z (.int i)) else none) = _
  rw [okInts]
  show some ((ns.map PyData.int).any fun z => PyData.eqv z (.int i)) = _
  congr 1
  rw [List.any_map, List.contains_eq_any_beq]
  congr 1
  funext z
  show PyData.eqv (.int z) (.int i) = _
  rw [eqvI]
  by_cases e : z = i
  · subst e; simp
  · have : ¬ i = z := fun q => e q.symm
    simp [e, this]
theorem in_nats (i : Nat) (ns : List Nat) : inF (natK i) (.list (ns.map natK)) = some (ns.contains i) := by
  have := in_ints i (ns.map fun k : Nat => (k : Int))
  rw [List.map_map] at this
  refine this.trans ?_
  congr 1
  rw [List.contains_eq_any_beq, List.contains_eq_any_beq, List.any_map]
  congr 1
  funext z
  show ((i : Int) == (z : Int)) = (i == z)
  by_cases e : i = z
  · subst e; simp
  · have : ¬ (i : Int) = z := by omega
    rw [beq_false_of_ne e, beq_false_of_ne this]
theorem eqv_ints : ∀ xs ys : List Int, PyData.eqvAll (xs.map .int) (ys.map .int) = decide (xs = ys)
  | [], [] => rfl
  | [], y :: ys => by simp [PyData.eqvAll]
  | x :: xs, [] => by simp [PyData.eqvAll]
  | x :: xs, y :: ys => by
    rw [List.map_cons, List.map_cons, W.eqv_all_cons, eqv_ints xs ys, eqvI]
    by_cases e : x = y
    · subst e; simp
    · simp [e]
/-- the least of lists of numbers, if it stands first -/
theorem min_rows {x : List Int} {xs : List (List Int)} (h : ∀ y ∈ xs, ¬ y < x) : primF .min1 [.list ((x :: xs).map fun y => .list (y.map .int))] = some (.list (x.map .int)) := by
  have dl (xs ys : List Int) : W.dataLt (.list (xs.map .int)) (.list (ys.map .int)) = decide (xs < ys) := W.dataLt_ints xs ys
  show bestF (fun y x => W.dataLt y x) ((x :: xs).map fun y => .list (y.map .int)) = _
  have h1 : alikeB ((x :: xs).map fun y => (.list (y.map .int) : D)) = true := by
    unfold alikeB
    rw [Bool.and_eq_true]
    refine ⟨?_, decide_eq_true ?_⟩
    · rw [List.all_eq_true]
      intro a ha
      rw [List.all_eq_true]
      intro b hb
      obtain ⟨u, _, rfl⟩ := List.mem_map.mp ha
      obtain ⟨v, _, rfl⟩ := List.mem_map.mp hb
      exact W.alike_ints u v
    · have : ∀ l : List (List Int), PyData.depthAll (l.map fun y => (.list (y.map .int) : D)) ≤ 1 := by
        intro l
        induction l with
        | nil => simp [PyData.depthAll]
        | cons y l ih =>
          rw [List.map_cons]
          simp only [PyData.depthAll, PyData.depth, (intsL y).2]
          omega
      have := this (x :: xs)
      omega
  have h2 : noneFree ((x :: xs).map fun y => (.list (y.map .int) : D)) = true := by
    unfold noneFree
    rw [List.all_eq_true]
    intro a ha
    obtain ⟨u, _, rfl⟩ := List.mem_map.mp ha
    rfl
  rw [List.map_cons] at h1 h2 ⊢
  show (if alikeB _ && noneFree _ then some _ else none) = _
  rw [h1, h2]
  show some ((xs.map fun y => (.list (y.map .int) : D)).foldl (fun a y => if W.dataLt y a = true then y else a) (.list (x.map .int))) = _
  congr 1
  clear h1 h2
  induction xs with
  | nil => rfl
  | cons y l ih =>
    rw [List.map_cons, List.foldl_cons, dl, decide_eq_false (h y List.mem_cons_self), if_neg Bool.false_ne_true]
    exact ih fun z hz => h z (List.mem_cons_of_mem _ hz)
theorem index_first {x : List Int} {xs : List (List Int)} : primF .index [.list ((x :: xs).map fun y => .list (y.map .int)), .list (x.map .int)] = some (.int 0) := by
  show indexF _ _ = _
  unfold indexF
  have : ∀ l : List (List Int), PyData.plainAll (l.map fun y => (.list (y.map .int) : D)) = true ∧ PyData.depthAll (l.map fun y => (.list (y.map .int) : D)) ≤ 1 := by
    intro l
    induction l with
    | nil => exact ⟨rfl, by simp [PyData.depthAll]⟩
    | cons y l ih =>
      rw [List.map_cons]
      refine ⟨?_, ?_⟩
      · simp only [PyData.plainAll, PyData.plain, (intsL y).1, ih.1, Bool.and_self]
      · simp only [PyData.depthAll, PyData.depth, (intsL y).2]
        have := ih.2
        omega
  obtain ⟨a, b⟩ := this (x :: xs)
  rw [a, decide_eq_true (by omega), okInts]
  show ((((x :: xs).map fun y => (.list (y.map .int) : D)).findIdx? fun y => PyData.eqv y (.list (x.map .int))).map fun j => PyData.int (j : Nat)) = _
  rw [List.map_cons, List.findIdx?_cons]
  have e : PyData.eqv (.list (x.map .int)) (.list (x.map .int)) = true := by
    have := eqv_ints x x
    rw [decide_eq_true rfl] at this
    exact this
  rw [e]
  rfl
/-- rows of pairs have no lists within -/
theorem al_pairs (r : List (Nat × Nat)) : alDs (r.map prD) = true ∧ dpDs (r.map prD) ≤ 1 := by
  induction r with
  | nil => exact ⟨rfl, Nat.zero_le _⟩
  | cons p r ih =>
    refine ⟨?_, ?_⟩
    · show (alD (prD p) && alDs (r.map prD)) = true
      rw [ih.1]
      rfl
    · show max (dpD (prD p)) (dpDs (r.map prD)) ≤ 1
      have : dpD (prD p) = 1 := rfl
      omega
theorem al_row (r : List (Nat × Nat)) (h : r.length ≤ 1000000) : alD (rwD r) = true ∧ dpD (rwD r) ≤ 2 := by
  obtain ⟨a, b⟩ := al_pairs r
  refine ⟨?_, ?_⟩
  · show (alDs (r.map prD) && decide ((r.map prD).length ≤ 1000000)) = true
    rw [a, List.length_map]
    simpa using h
  · show dpDs (r.map prD) + 1 ≤ 2
    omega
mutual
theorem al_plain : ∀ d : D, alD d = true → d.plain = true ∧ d.depth ≤ dpD d
  | .none, _ => ⟨rfl, Nat.zero_le _⟩
  | .bool _, _ => ⟨rfl, Nat.zero_le _⟩
  | .int _, _ => ⟨rfl, Nat.zero_le _⟩
  | .str _, _ => ⟨rfl, Nat.zero_le _⟩
  | .list _, h => nomatch h
  | .dict _, h => nomatch h
  | .tuple xs, h => by
    have h : (alDs xs && decide (xs.length ≤ 1000000)) = true := h
    rw [Bool.and_eq_true] at h
    obtain ⟨a, b⟩ := als_plain xs h.1
    refine ⟨?_, ?_⟩
    · simp only [PyData.plain, a]
    · show PyData.depth (.tuple xs) ≤ dpDs xs + 1
      simp only [PyData.depth]
      omega
theorem als_plain : ∀ xs : List D, alDs xs = true → PyData.plainAll xs = true ∧ PyData.depthAll xs ≤ dpDs xs
  | [], _ => ⟨rfl, by simp [PyData.depthAll]⟩
  | x :: xs, h => by
    have h : (alD x && alDs xs) = true := h
    rw [Bool.and_eq_true] at h
    obtain ⟨a1, b1⟩ := al_plain x h.1
    obtain ⟨a2, b2⟩ := als_plain xs h.2
    refine ⟨?_, ?_⟩
    · simp only [PyData.plainAll, a1, a2, Bool.and_self]
    · show _ ≤ max (dpD x) (dpDs xs)
      simp only [PyData.depthAll]
      omega
end
theorem al_list {xs : List D} (h : alDs xs = true) (h2 : dpDs xs ≤ 30) : okD (.list xs) = true := by
  obtain ⟨a, b⟩ := als_plain xs h
  unfold okD
  simp only [PyData.plain, PyData.depth, a, Bool.true_and]
  exact decide_eq_true (by omega)
theorem eq_nilL {xs : List D} (h : okD (.list xs) = true) : eqF (.list xs) (.list []) = some xs.isEmpty := by
  unfold eqF
  have : okD (.list []) = true := by decide +kernel
  rw [h, this]
  cases xs with
  | nil => decide +kernel
  | cons x xs => show some (PyData.eqv (.list (x :: xs)) (.list [])) = _; congr 1
theorem al_map {α : Type} {f : α → D} {n : Nat} (l : List α) (h : ∀ a ∈ l, alD (f a) = true ∧ dpD (f a) ≤ n) : alDs (l.map f) = true ∧ dpDs (l.map f) ≤ n := by
  induction l with
  | nil => exact ⟨rfl, Nat.zero_le _⟩
  | cons a l ih =>
    obtain ⟨h1, h2⟩ := h a List.mem_cons_self
    obtain ⟨h3, h4⟩ := ih fun b hb => h b (List.mem_cons_of_mem _ hb)
    refine ⟨?_, ?_⟩
    · show (alD (f a) && alDs (l.map f)) = true
      rw [h1, h3]
      rfl
    · show max (dpD (f a)) (dpDs (l.map f)) ≤ n
      omega
end DV
end

section
/-! a law's draws -/
namespace DV
open PySem
/-- the draws, k of them used -/
def wN (ds : List Int) (k : Nat) : D := wD ds k
theorem w_kindN (ds : List Int) (k : Nat) : kindD (wN ds k) = 6 := rfl
theorem nextN {T : List Fi} {n f : Nat} (h : T[f]? = some fiNext) (ds : List Int) (k m : Nat) (hm : 0 < m) : ∃ r k' : Nat, r < m ∧ evF T (n + 1) f [wN ds k, .int m] = some (natK r, [wN ds k']) := by
  obtain ⟨r, h0, h1, e⟩ := next_ok (n := n) h ds k m (by omega)
  refine ⟨r.toNat, k + 1, by omega, ?_⟩
  have : natK r.toNat = .int r := by
    show PyData.int ((r.toNat : Nat) : Int) = _
    congr 1
    omega
  rw [this]
  exact e
theorem pickN {T : List Fi} {n f nx : Nat} (h : T[f]? = some (fiPick nx)) (hn : T[nx]? = some fiNext) (ds : List Int) (k : Nat) (rows : List D) (hr : rows ≠ []) : ∃ (x : D) (k' : Nat), x ∈ rows ∧ evF T (n + 2) f [wN ds k, .list rows] = some (x, [wN ds k']) := by
  obtain ⟨x, hx, e⟩ := pick_ok (n := n) h hn ds k rows hr
  exact ⟨x, k + 1, hx, e⟩
theorem list_image {α : Type} {emb : α → D} {P : α → Prop} : ∀ {ys : List D}, (∀ y ∈ ys, ∃ a, y = emb a ∧ P a) → ∃ l : List α, ys = l.map emb ∧ ∀ a ∈ l, P a
  | [], _ => ⟨[], rfl, fun a h => nomatch h⟩
  | y :: ys, h => by
    obtain ⟨a, rfl, ha⟩ := h y List.mem_cons_self
    obtain ⟨l, rfl, hl⟩ := list_image fun z hz => h z (List.mem_cons_of_mem _ hz)
    refine ⟨a :: l, rfl, fun b hb => ?_⟩
    rcases List.mem_cons.mp hb with rfl | hb
    · exact ha
    · exact hl b hb
/-- a list that is drawn: [elt for v in it], by a law's state -/
theorem comp_draw {α : Type} {C : Call} {v : Nat} {it : It} {elt : IE} {ρ : Ro} {xs : List D} {s : D} {ds : List Int} {k : Nat} {r : Ro} (emb : α → D) (P : α → Prop) (hi : evI C it ρ = some (xs, .sh s :: .ow (wN ds k) :: r)) (no : noOw (.sh s :: .ow (wN ds k) :: r) [v + 2] = true) (hl : xs.length ≤ sizeLine) (hv : v < r.length)
    (hb : ∀ x ∈ xs, ∀ k, ∃ a k', evE C elt (.sh s :: .ow (wN ds k) :: r.set v (.sh x)) = some (emb a, .sh s :: .ow (wN ds k') :: r.set v (.sh x)) ∧ P a) :
    ∃ (l : List α) (k' : Nat), l.length = xs.length ∧ (∀ a ∈ l, P a) ∧ evE C (.comp [v + 2] (.nm (v + 2)) it .nil elt) ρ = some (.list (l.map emb), .sh s :: .ow (wN ds k') :: r) := by
  obtain ⟨ys, ρw, e, ⟨k', rfl⟩, l, p⟩ := comp_evI (C := C) (vs := [v + 2]) (t := .nm (v + 2)) (it := it) (elt := elt) (ρ := ρ) (fun ρw => ∃ k', ρw = .sh s :: .ow (wN ds k') :: r.set v .no) (fun y => ∃ a, y = emb a ∧ P a) hi no hl ⟨k, rfl⟩ (fun x hx ρw hw => by
    obtain ⟨k1, rfl⟩ := hw
    obtain ⟨a, k2, e1, ha⟩ := hb x hx k1
    refine ⟨.sh s :: .ow (wN ds k1) :: r.set v (.sh x), emb a, .sh s :: .ow (wN ds k2) :: r.set v (.sh x), ?_, e1, ⟨k2, ?_⟩, a, rfl, ha⟩
    · show some (((.sh s :: .ow (wN ds k1) :: r.set v .no : Ro)).set (v + 2) (.sh x)) = _
      rw [List.set_cons_succ, List.set_cons_succ, List.set_set]
    · show ((.sh s :: .ow (wN ds k2) :: r.set v (.sh x) : Ro)).set (v + 2) .no = _
      rw [List.set_cons_succ, List.set_cons_succ, List.set_set])
  obtain ⟨m, rfl, hm⟩ := list_image p
  refine ⟨m, k', by rw [List.length_map] at l; exact l, hm, ?_⟩
  rw [e]
  congr 2
  show ((.sh s :: .ow (wN ds k') :: r.set v .no : Ro)).set (v + 2) ((.sh s :: .ow (wN ds k) :: r : Ro).getD (v + 2) .no) = _
  rw [List.set_cons_succ, List.set_cons_succ, List.set_set]
  congr 2
  have : ((.sh s :: .ow (wN ds k) :: r : Ro).getD (v + 2) .no) = r.getD v .no := by
    rw [List.getD_cons_succ, List.getD_cons_succ]
  rw [this]
  apply List.ext_getElem?
  intro j
  by_cases hj : v = j
  · subst hj
    rw [List.getElem?_set_self hv, List.getElem?_eq_getElem hv, List.getD_eq_getElem?_getD, List.getElem?_eq_getElem hv]
    rfl
  · rw [List.getElem?_set_ne hj]
end DV
end

section
/-! loops with a test; the helper that compares by a list of pairs -/
namespace DV
open PySem
theorem while_G {c : Ro → Option (Bool × Ro)} {f : Ro → Option Fl} {I : Nat → Ro → Prop} {J : Ro → Prop} {R : Fl → Prop} (h : ∀ m ρ, I m ρ → ∃ k ρ1, c ρ = some (k, ρ1) ∧ (k = true → ∃ fl, f ρ1 = some fl ∧ match fl with | .nx ρ2 => ∃ m', m' < m ∧ I m' ρ2 | .ct ρ2 => ∃ m', m' < m ∧ I m' ρ2 | .bk ρ2 => J ρ2 | .rt d ρ2 => R (.rt d ρ2)) ∧ (k = false → J ρ1)) :
    ∀ n m ρ, m < n → I m ρ → ∃ fl, whileLoop c f n ρ = some fl ∧ ((∃ ρ', fl = .nx ρ' ∧ J ρ') ∨ ∃ d ρ', fl = .rt d ρ' ∧ R fl) := by
  intro n
  induction n with
  | zero => intro m ρ h0; omega
  | succ n ih =>
    intro m ρ hm hI
    obtain ⟨k, ρ1, e1, ht, hf⟩ := h m ρ hI
    have er : whileLoop c f (n + 1) ρ = (c ρ).bind fun p => if p.1 then (f p.2).bind fun r => match r with
      | .nx ρ' => whileLoop c f n ρ'
      | .ct ρ' => whileLoop c f n ρ'
      | .bk ρ' => some (.nx ρ')
      | .rt d ρ' => some (.rt d ρ')
      else some (.nx p.2) := rfl
    rw [er, e1]
    cases k with
    | false => exact ⟨_, rfl, .inl ⟨_, rfl, hf rfl⟩⟩
    | true =>
      obtain ⟨fl, e2, i⟩ := ht rfl
      show ∃ fl, ((f ρ1).bind _) = some fl ∧ _
      rw [e2]
      cases fl with
      | nx ρ2 =>
        obtain ⟨m', hm', i⟩ := i
        exact ih m' ρ2 (by omega) i
      | ct ρ2 =>
        obtain ⟨m', hm', i⟩ := i
        exact ih m' ρ2 (by omega) i
      | bk ρ2 => exact ⟨_, rfl, .inl ⟨_, rfl, i⟩⟩
      | rt d ρ2 => exact ⟨_, rfl, .inr ⟨_, _, rfl, i⟩⟩
theorem run_while {C : Call} {ss : ISs} {ρ : Ro} {P : Fl → Prop} {c : IE} {b : ISs} (I : Nat → Ro → Prop) (J : Ro → Prop) (m0 : Nat) (hm : m0 < 1048576) (h0 : I m0 ρ)
    (ht : ∀ m ρ', I m ρ' → ∃ k ρ1, evE C c ρ' = some (.bool k, ρ1) ∧ (k = true → Run C b ρ1 fun fl => match fl with | .nx ρ2 => ∃ m', m' < m ∧ I m' ρ2 | .ct ρ2 => ∃ m', m' < m ∧ I m' ρ2 | .bk ρ2 => J ρ2 | .rt d ρ2 => P (.rt d ρ2)) ∧ (k = false → J ρ1))
    (h2 : ∀ ρ', J ρ' → Run C ss ρ' P) : Run C (.cons (.while_ c b) ss) ρ P := by
  obtain ⟨fl, e, h⟩ := while_G (c := fun ρ => (evE C c ρ).bind fun p => (truthF p.1).map fun k => (k, p.2)) (f := fun ρ => exSs C b ρ) (I := I) (J := J) (R := P) (fun m ρ' hI => by
    obtain ⟨k, ρ1, e1, h1, h2⟩ := ht m ρ' hI
    refine ⟨k, ρ1, ?_, fun hk => h1 hk, h2⟩
    show ((evE C c ρ').bind fun p => (truthF p.1).map fun k => (k, p.2)) = _
    rw [e1]
    rfl) 1048576 m0 ρ hm h0
  refine run_step ?_
  have er : exS C (.while_ c b) ρ = some fl := e
  rw [er]
  rcases h with ⟨ρ', rfl, h⟩ | ⟨d, ρ', rfl, h⟩
  · exact h2 ρ' h
  · exact h
def fiSame16 : Fi := { io := [false, false], slots := 8, body := (.cons (.asg (.nm 2) true (.lst (.cons (.tup (.cons (.var 0) (.cons (.var 1) .nil))) .nil))) (.cons (.while_ (.prim (.cmp .NotEq) (.cons (.own 2) (.cons (.lst .nil) .nil))) (.cons (.asg (.tp (.cons (.nm 3) (.cons (.nm 4) .nil))) false (.mut .pop 2 .nil)) (.cons (.iff (.prim (.isi "dict") (.cons (.var 4) .nil)) (.cons .fail (.cons .fail (.cons .fail .nil))) (.cons (.iff (.or (.prim (.isi "tuple") (.cons (.var 4) .nil)) (.prim (.isi "list") (.cons (.var 4) .nil))) (.cons (.iff (.or (.prim (.cmp .NotEq) (.cons (.prim (.isi "tuple") (.cons (.var 3) .nil)) (.cons (.prim (.isi "tuple") (.cons (.var 4) .nil)) .nil))) (.or (.prim (.cmp .NotEq) (.cons (.prim (.isi "list") (.cons (.var 3) .nil)) (.cons (.prim (.isi "list") (.cons (.var 4) .nil)) .nil))) (.prim (.cmp .NotEq) (.cons (.prim .len (.cons (.var 3) .nil)) (.cons (.prim .len (.cons (.var 4) .nil)) .nil))))) (.cons (.ret (.con (.bool false))) .nil) .nil) (.cons (.exp (.mut .extend 2 (.cons (.comp [7] (.nm 7) (.rng (.cons (.prim .len (.cons (.var 4) .nil)) .nil)) .nil (.tup (.cons (.prim .ix (.cons (.var 3) (.cons (.var 7) .nil))) (.cons (.prim .ix (.cons (.var 4) (.cons (.var 7) .nil))) .nil)))) .nil))) .nil)) (.cons (.iff (.or (.prim (.cmp .NotEq) (.cons (.prim (.isi "bool") (.cons (.var 3) .nil)) (.cons (.prim (.isi "bool") (.cons (.var 4) .nil)) .nil))) (.or (.prim (.cmp .NotEq) (.cons (.prim (.isi "int") (.cons (.var 3) .nil)) (.cons (.prim (.isi "int") (.cons (.var 4) .nil)) .nil))) (.or (.prim (.cmp .NotEq) (.cons (.prim (.isi "str") (.cons (.var 3) .nil)) (.cons (.prim (.isi "str") (.cons (.var 4) .nil)) .nil))) (.prim (.cmp .NotEq) (.cons (.var 3) (.cons (.var 4) .nil)))))) (.cons (.ret (.con (.bool false))) .nil) .nil) .nil)) .nil)) .nil))) (.cons (.ret (.con (.bool true))) .nil))) }
mutual
/-- how many values it is made of -/
def szD : D → Nat
  | .tuple xs => szDs xs + 1
  | _ => 1
def szDs : List D → Nat
  | [] => 0
  | x :: xs => szD x + szDs xs
end
theorem sz_app : ∀ xs ys : List D, szDs (xs ++ ys) = szDs xs + szDs ys
  | [], ys => by simp [szDs]
  | x :: xs, ys => by
    show szD x + szDs (xs ++ ys) = szD x + szDs xs + szDs ys
    rw [sz_app xs ys]
    omega
theorem als_app : ∀ xs ys : List D, alDs (xs ++ ys) = (alDs xs && alDs ys)
  | [], ys => rfl
  | x :: xs, ys => by
    show (alD x && alDs (xs ++ ys)) = (alD x && alDs xs && alDs ys)
    rw [als_app xs ys, Bool.and_assoc]
theorem dps_app : ∀ xs ys : List D, dpDs (xs ++ ys) = max (dpDs xs) (dpDs ys)
  | [], ys => by simp [dpDs]
  | x :: xs, ys => by
    show max (dpD x) (dpDs (xs ++ ys)) = max (max (dpD x) (dpDs xs)) (dpDs ys)
    rw [dps_app xs ys]
    omega
def twD (x : D) : D := .tuple [x, x]
theorem tw_al : ∀ xs : List D, alDs xs = true → alDs (xs.map twD) = true ∧ dpDs (xs.map twD) ≤ dpDs xs + 1
  | [], _ => ⟨rfl, Nat.zero_le _⟩
  | x :: xs, h => by
    have h : (alD x && alDs xs) = true := h
    rw [Bool.and_eq_true] at h
    obtain ⟨a, b⟩ := tw_al xs h.2
    refine ⟨?_, ?_⟩
    · show (alD (twD x) && alDs (xs.map twD)) = true
      have : alD (twD x) = true := by
        show ((alD x && (alD x && true)) && decide (2 ≤ 1000000)) = true
        rw [h.1]
        rfl
      rw [a, this]
      rfl
    · show max (dpD (twD x)) (dpDs (xs.map twD)) ≤ max (dpD x) (dpDs xs) + 1
      have : dpD (twD x) = dpD x + 1 := by
        show max (dpD x) (max (dpD x) 0) + 1 = _
        omega
      omega
def saS (d : D) (ws : List D) (a b e : Sl) : Ro := [.sh d, .sh d, .ow (.list (ws.map twD)), a, b, .no, .no, e]
theorem atI_last (xs : List D) (x : D) : L2.atI (xs ++ [x]) (-1) = some x := by
  unfold L2.atI L2.ixN
  rw [if_neg (by decide), if_pos (by simp; omega)]
  show (xs ++ [x])[((-1 : Int) + ((xs ++ [x]).length : Int)).toNat]? = _
  rw [show ((-1 : Int) + ((xs ++ [x]).length : Int)).toNat = xs.length by simp; omega, List.getElem?_concat_length]
theorem sz_len : ∀ xs : List D, xs.length ≤ szDs xs
  | [] => Nat.le_refl _
  | x :: xs => by
    have := sz_len xs
    have h : 1 ≤ szD x := by cases x <;> first | exact Nat.le_refl _ | exact Nat.le_add_left _ _
    show xs.length + 1 ≤ szD x + szDs xs
    omega
theorem range_getD (xs : List D) (g : D → D) : ((List.range xs.length).map fun k => g (xs.getD k .none)) = xs.map g := by
  apply List.ext_getElem?
  intro k
  rw [List.getElem?_map, List.getElem?_map]
  by_cases h : k < xs.length
  · rw [List.getElem?_range h, List.getElem?_eq_getElem h]
    show some (g (xs.getD k .none)) = _
    rw [List.getD_eq_getElem?_getD, List.getElem?_eq_getElem h]
    rfl
  · rw [List.getElem?_eq_none (by rw [List.length_range]; omega), List.getElem?_eq_none (by omega)]
    rfl
theorem eqF_self {d : D} (h : alD d = true) (h2 : dpD d ≤ 30) (he : PyData.eqv d d = true) : eqF d d = some true := by
  obtain ⟨a, b⟩ := al_plain d h
  have : okD d = true := by
    unfold okD
    rw [a, Bool.true_and]
    exact decide_eq_true (by omega)
  unfold eqF
  rw [this, he]
  rfl
theorem eqBB' (a b : Bool) : eqF (.bool a) (.bool b) = some (a == b) := by cases a <;> cases b <;> decide +kernel
theorem eqNone : eqF .none .none = some true := by decide +kernel
theorem same16_ok {T : List Fi} {f n : Nat} (h : T[f]? = some fiSame16) (d : D) (ha : alD d = true) (hd : dpD d ≤ 20) (hz : szD d ≤ 1000000) : evF T (n + 1) f [d, d] = some (.bool true, []) := by
  refine call_eq h [.sh d, .sh d] rfl ?_
  show Run _ fiSame16.body [.sh d, .sh d, .no, .no, .no, .no, .no, .no] _
  unfold fiSame16
  have hsl : 2000000 ≤ sizeLine := by rw [sizeLine_eq]; decide
  refine run_nx (ρ' := saS d [d] .no .no .no) (by simp [saS]; rfl) ?_
  refine run_while (fun m ρ => ∃ ws a b, ρ = saS d ws a b .no ∧ alDs ws = true ∧ dpDs ws ≤ 20 ∧ szDs ws = m ∧ m ≤ 1000000) (fun ρ => ∃ a b, ρ = saS d [] a b .no) (szDs [d]) ?_ ⟨[d], .no, .no, rfl, ?_, ?_, rfl, ?_⟩ ?_ ?_
  · show szD d + 0 < _
    omega
  · show (alD d && true) = true
    rw [ha]
    rfl
  · show max (dpD d) 0 ≤ 20
    omega
  · show szD d + 0 ≤ _
    omega
  · rintro m ρ' ⟨ws, a, b, rfl, wa, wd, wz, wm⟩
    obtain ⟨t1, t2⟩ := tw_al ws wa
    have en : eqF (.list (ws.map twD)) (.list []) = some ws.isEmpty := by rw [eq_nilL (al_list t1 (by omega)), List.isEmpty_map]
    refine ⟨!ws.isEmpty, saS d ws a b .no, by simp [saS, en], fun hk => ?_, fun hk => ?_⟩
    · have hne : ws ≠ [] := by
        intro e
        rw [e] at hk
        cases hk
      obtain ⟨us, x, rfl⟩ : ∃ us x, ws = us ++ [x] := ⟨ws.dropLast, ws.getLast hne, (List.dropLast_concat_getLast hne).symm⟩
      rw [als_app, Bool.and_eq_true] at wa
      rw [dps_app] at wd
      rw [sz_app] at wz
      obtain ⟨ua, xa⟩ := wa
      have xa : (alD x && true) = true := xa
      rw [Bool.and_true] at xa
      have xd : dpD x ≤ 20 := by
        have : dpDs [x] = max (dpD x) 0 := rfl
        omega
      have xz : szDs us + szD x = m := by
        have : szDs [x] = szD x + 0 := rfl
        omega
      have hpop : L2.atI ((us ++ [x]).map twD) (-1) = some (twD x) := by
        rw [List.map_append]
        exact atI_last _ _
      have hdl : ((us ++ [x]).map twD).dropLast = us.map twD := by simp
      refine run_nx (ρ' := saS d us (.sh x) (.sh x) .no) ?_ ?_
      · simp only [saS]
        generalize (us ++ [x]).map twD = vs at hpop hdl
        simp [hpop, twD, hdl]
      · cases x with
        | tuple xs =>
          have xa : (alDs xs && decide (xs.length ≤ 1000000)) = true := xa
          rw [Bool.and_eq_true] at xa
          have xd : dpDs xs + 1 ≤ 20 := xd
          have xz : szDs us + (szDs xs + 1) = m := xz
          have l1 := sz_len xs
          have l2 := sz_len us
          have rl : rngIn (xs.length : Int) = true := by unfold rngIn; exact decide_eq_true (by omega)
          refine run_ite (k := false) (ρ' := saS d us (.sh (.tuple xs)) (.sh (.tuple xs)) .no) (by simp [saS]) (fun q => nomatch q) fun _ => ?_
          refine run_ite (k := true) (ρ' := saS d us (.sh (.tuple xs)) (.sh (.tuple xs)) .no) (by simp [saS]) (fun _ => ?_) fun q => nomatch q
          refine run_ite (k := false) (ρ' := saS d us (.sh (.tuple xs)) (.sh (.tuple xs)) .no) (by simp [saS, eqBB']) (fun q => nomatch q) fun _ => run_nil ?_
          refine run_nx (ρ' := saS d (us ++ xs) (.sh (.tuple xs)) (.sh (.tuple xs)) .no) ?_ (run_nil (run_nil (run_nil ⟨szDs (us ++ xs), by rw [sz_app]; omega, us ++ xs, _, _, rfl, by rw [als_app, ua, xa.1]; rfl, by rw [dps_app]; omega, rfl, by rw [sz_app]; omega⟩)))
          have q : evE (evF T n) (.comp [7] (.nm 7) (.rng (.cons (.prim .len (.cons (.var 4) .nil)) .nil)) .nil (.tup (.cons (.prim .ix (.cons (.var 3) (.cons (.var 7) .nil))) (.cons (.prim .ix (.cons (.var 4) (.cons (.var 7) .nil))) .nil)))) (saS d us (.sh (.tuple xs)) (.sh (.tuple xs)) .no) = some (.list (xs.map twD), saS d us (.sh (.tuple xs)) (.sh (.tuple xs)) .no) := by
            rw [← range_getD xs twD]
            refine comp_m (List.range xs.length) natK _ ?_ rfl (by rw [List.length_range]; omega) fun k hk => ⟨_, by exact rfl, by exact rfl, ?_⟩
            · simp [saS, rl]
              exact rangeI_up _
            · have hk := List.mem_range.mp hk
              have e : L2.atI xs (k : Int) = some (xs.getD k .none) := atI_nat (by rw [List.getD_eq_getElem?_getD, List.getElem?_eq_getElem hk]; rfl)
              simp [saS, wipeR, natK, e, twD]
          have hl : (us.map twD).length + (xs.map twD).length ≤ sizeLine := by rw [List.length_map, List.length_map]; omega
          rw [ex_exp, ev_mut, ops_comp, q]
          simp only [saS, List.map_append]
          generalize us.map twD = u1 at hl
          generalize xs.map twD = u2 at hl
          simp [hl]
        | list xs => cases xa
        | dict xs => cases xa
        | none => 
          have e1 : szD PyData.none = 1 := rfl
          exact run_ite (k := false) (ρ' := saS d us (.sh PyData.none) (.sh PyData.none) .no) (by simp [saS]) (fun q => nomatch q) fun _ => run_ite (k := false) (ρ' := saS d us (.sh PyData.none) (.sh PyData.none) .no) (by simp [saS]) (fun q => nomatch q) fun _ => run_ite (k := false) (ρ' := saS d us (.sh PyData.none) (.sh PyData.none) .no) (by simp [saS, eqBB', eqNone]) (fun q => nomatch q) fun _ => run_nil (run_nil (run_nil (run_nil ⟨szDs us, by omega, us, _, _, rfl, ua, by omega, rfl, by omega⟩)))
        | bool v => 
          have e1 : szD (.bool v) = 1 := rfl
          exact run_ite (k := false) (ρ' := saS d us (.sh (.bool v)) (.sh (.bool v)) .no) (by simp [saS]) (fun q => nomatch q) fun _ => run_ite (k := false) (ρ' := saS d us (.sh (.bool v)) (.sh (.bool v)) .no) (by simp [saS]) (fun q => nomatch q) fun _ => run_ite (k := false) (ρ' := saS d us (.sh (.bool v)) (.sh (.bool v)) .no) (by simp [saS, eqBB']) (fun q => nomatch q) fun _ => run_nil (run_nil (run_nil (run_nil ⟨szDs us, by omega, us, _, _, rfl, ua, by omega, rfl, by omega⟩)))
        | int v => 
          have e1 : szD (.int v) = 1 := rfl
          exact run_ite (k := false) (ρ' := saS d us (.sh (.int v)) (.sh (.int v)) .no) (by simp [saS]) (fun q => nomatch q) fun _ => run_ite (k := false) (ρ' := saS d us (.sh (.int v)) (.sh (.int v)) .no) (by simp [saS]) (fun q => nomatch q) fun _ => run_ite (k := false) (ρ' := saS d us (.sh (.int v)) (.sh (.int v)) .no) (by simp [saS, eqBB']) (fun q => nomatch q) fun _ => run_nil (run_nil (run_nil (run_nil ⟨szDs us, by omega, us, _, _, rfl, ua, by omega, rfl, by omega⟩)))
        | str v => 
          have e1 : szD (.str v) = 1 := rfl
          exact run_ite (k := false) (ρ' := saS d us (.sh (.str v)) (.sh (.str v)) .no) (by simp [saS]) (fun q => nomatch q) fun _ => run_ite (k := false) (ρ' := saS d us (.sh (.str v)) (.sh (.str v)) .no) (by simp [saS]) (fun q => nomatch q) fun _ => run_ite (k := false) (ρ' := saS d us (.sh (.str v)) (.sh (.str v)) .no) (by simp [saS, eqBB']) (fun q => nomatch q) fun _ => run_nil (run_nil (run_nil (run_nil ⟨szDs us, by omega, us, _, _, rfl, ua, by omega, rfl, by omega⟩)))
    · have : ws = [] := by
        cases ws with
        | nil => rfl
        | cons _ _ => cases hk
      subst this
      exact ⟨a, b, rfl⟩
  · rintro ρ' ⟨a, b, rfl⟩
    exact run_rt (r := (.bool true, saS d [] a b .no)) (by simp) ⟨_, rfl, rfl⟩
end DV
end

section
/-! slices, pairs side by side, the least of tuples of numbers -/
namespace DV
open PySem
@[simp] theorem slst_back (xs : List D) : slstF none none (-1) (.tuple xs) = some (.tuple xs.reverse) := rfl
theorem cut_from {α : Type} (xs : List α) (k : Nat) : cut xs (some (k : Int)) none = xs.drop k := by
  unfold cut
  rw [HT.sIx_none, HT.sIx_nat, List.take_of_length_le (by rw [List.length_drop]; omega)]
  by_cases h : k ≤ xs.length
  · rw [Nat.min_eq_left h]
  · rw [Nat.min_eq_right (by omega), List.drop_length, List.drop_eq_nil_of_le (by omega)]
theorem cut_to {α : Type} (xs : List α) (k : Nat) : cut xs none (some (k : Int)) = xs.take k := by
  unfold cut
  rw [HT.sIx_none, HT.sIx_nat, Nat.sub_zero, List.drop_zero]
  by_cases h : k ≤ xs.length
  · rw [Nat.min_eq_left h]
  · rw [Nat.min_eq_right (by omega), List.take_length, List.take_of_length_le (by omega)]
theorem cut_both {α : Type} (xs : List α) (a b : Nat) : cut xs (some (a : Int)) (some (b : Int)) = (xs.drop a).take (b - a) := by
  unfold cut
  rw [HT.sIx_nat, HT.sIx_nat]
  by_cases h : a ≤ xs.length
  · rw [Nat.min_eq_left h]
    by_cases h2 : b ≤ xs.length
    · rw [Nat.min_eq_left h2]
    · rw [Nat.min_eq_right (by omega), List.take_of_length_le (by rw [List.length_drop]; omega), List.take_of_length_le (by rw [List.length_drop]; omega)]
  · rw [Nat.min_eq_right (a := a) (by omega), List.drop_length, List.drop_eq_nil_of_le (by omega)]
    simp
theorem cut_last {α : Type} (xs : List α) : cut xs none (some (-1)) = xs.dropLast := by
  unfold cut
  rw [HT.sIx_none, List.drop_zero, List.dropLast_eq_take]
  congr 1
  show (if (-1 : Int) < 0 then ((-1 : Int) + (xs.length : Int)).toNat else min (-1 : Int).toNat xs.length) - 0 = xs.length - 1
  rw [if_pos (by decide)]
  omega
def natT (ws : List Nat) : D := .tuple (ws.map natK)
def intT (ws : List Int) : D := .tuple (ws.map .int)
theorem natT_int (ws : List Nat) : natT ws = intT (ws.map fun k : Nat => (k : Int)) := by
  unfold natT intT
  rw [List.map_map]
  rfl
theorem cast_inj {a b : List Nat} (h : (a.map fun k : Nat => (k : Int)) = b.map fun k : Nat => (k : Int)) : a = b := by
  have := congrArg (List.map Int.toNat) h
  rw [List.map_map, List.map_map] at this
  have e : (Int.toNat ∘ fun k : Nat => (k : Int)) = id := by funext k; simp
  rw [e, List.map_id, List.map_id] at this
  exact this
theorem okIntT (ns : List Int) : okD (intT ns) = true := by
  obtain ⟨a, b⟩ := intsL ns
  unfold okD intT
  simp only [PyData.plain, PyData.depth, a, b]
  rfl
theorem eq_intT (a b : List Int) : eqF (intT a) (intT b) = some (decide (a = b)) := by
  unfold eqF
  rw [okIntT, okIntT]
  have : PyData.eqv (intT a) (intT b) = PyData.eqvAll (a.map .int) (b.map .int) := by unfold intT; rw [PyData.eqv]
  show some (PyData.eqv (intT a) (intT b)) = _
  rw [this, eqv_ints]
theorem eq_natT (a b : List Nat) : eqF (natT a) (natT b) = some (decide (a = b)) := by
  rw [natT_int, natT_int, eq_intT]
  congr 1
  by_cases h : a = b
  · subst h; simp
  · rw [decide_eq_false h, decide_eq_false fun q => h (cast_inj q)]
theorem zip_nats (a b : List Nat) : zipD (a.map natK) (b.map natK) = (a.zip b).map prD := by
  unfold zipD
  rw [List.zip_map, List.map_map]
  rfl
theorem range_at {n b : Nat} {ys zs : List Nat} (h : List.range n = ys ++ b :: zs) : ys.length < n ∧ b = ys.length := by
  have h1 := congrArg List.length h
  rw [List.length_range, List.length_append, List.length_cons] at h1
  have h2 : (List.range n)[ys.length]? = (ys ++ b :: zs)[ys.length]? := by rw [h]
  rw [List.getElem?_append_right (Nat.le_refl _), List.getElem?_range (by omega), Nat.sub_self] at h2
  have h2 : some ys.length = some b := h2
  injection h2 with h2
  exact ⟨by omega, h2.symm⟩
/-- the least of rows of numbers -/
def leastR (x : List Int) (xs : List (List Int)) : List Int := xs.foldl (fun a y => if y < a then y else a) x
theorem lt_asymmI {a b : List Int} (h : a < b) : ¬ b < a := fun q => List.lt_irrefl a (List.lt_trans h q)
theorem lt_tri : ∀ {a b : List Int}, ¬ a < b → ¬ b < a → a = b
  | [], [], _, _ => rfl
  | [], y :: ys, h, _ => absurd (List.nil_lt_cons y ys) h
  | x :: xs, [], _, h => absurd (List.nil_lt_cons x xs) h
  | x :: xs, y :: ys, h1, h2 => by
    rw [List.cons_lt_cons_iff] at h1 h2
    have e : x = y := by
      rcases Int.lt_trichotomy x y with h | h | h
      · exact absurd (.inl h) h1
      · exact h
      · exact absurd (.inl h) h2
    subst e
    rw [lt_tri (fun q => h1 (.inr ⟨rfl, q⟩)) fun q => h2 (.inr ⟨rfl, q⟩)]
theorem lt_tr2 {a b c : List Int} (h1 : ¬ b < a) (h2 : b < c ∨ b = c) : ¬ c < a := by
  intro q
  rcases h2 with h2 | rfl
  · exact h1 (List.lt_trans h2 q)
  · exact h1 q
theorem least_ok : ∀ (xs : List (List Int)) (x : List Int), leastR x xs ∈ x :: xs ∧ ∀ y ∈ x :: xs, ¬ y < leastR x xs
  | [], x => ⟨List.mem_cons_self, fun y hy => by
    rw [List.mem_singleton.mp hy]
    exact List.lt_irrefl x⟩
  | y :: xs, x => by
    have e : leastR x (y :: xs) = leastR (if y < x then y else x) xs := rfl
    obtain ⟨h1, h2⟩ := least_ok xs (if y < x then y else x)
    rw [e]
    refine ⟨?_, fun z hz => ?_⟩
    · rcases List.mem_cons.mp h1 with h | h
      · rw [h]
        by_cases c : y < x
        · rw [if_pos c]; simp
        · rw [if_neg c]; simp
      · simp [h]
    · have h3 := h2 _ List.mem_cons_self
      rcases List.mem_cons.mp hz with rfl | hz
      · by_cases c : y < z
        · rw [if_pos c] at h3 ⊢
          exact fun q => h3 (List.lt_trans c q)
        · rw [if_neg c] at h3 ⊢
          exact h3
      · rcases List.mem_cons.mp hz with rfl | hz
        · by_cases c : z < x
          · rw [if_pos c] at h3 ⊢
            exact h3
          · rw [if_neg c] at h3 ⊢
            intro q
            by_cases c2 : x < z
            · exact h3 (List.lt_trans c2 q)
            · rw [lt_tri c2 c] at h3
              rw [lt_tri c2 c] at q
              exact h3 q
        · exact h2 z (List.mem_cons_of_mem _ hz)
theorem least_same {x y : List Int} {xs ys : List (List Int)} (h : ∀ z, z ∈ x :: xs ↔ z ∈ y :: ys) : leastR x xs = leastR y ys := by
  obtain ⟨a1, a2⟩ := least_ok xs x
  obtain ⟨b1, b2⟩ := least_ok ys y
  exact lt_tri (b2 _ ((h _).mp a1)) (a2 _ ((h _).mpr b1))
theorem min_intT (x : List Int) (xs : List (List Int)) : primF .min1 [.list ((x :: xs).map intT)] = some (intT (leastR x xs)) := by
  have dl (xs ys : List Int) : W.dataLt (intT xs) (intT ys) = decide (xs < ys) := W.dataLt_ints xs ys
  show bestF (fun y x => W.dataLt y x) ((x :: xs).map intT) = _
  have h1 : alikeB ((x :: xs).map intT) = true := by
    unfold alikeB
    rw [Bool.and_eq_true]
    refine ⟨?_, decide_eq_true ?_⟩
    · rw [List.all_eq_true]
      intro a ha
      rw [List.all_eq_true]
      intro b hb
      obtain ⟨u, _, rfl⟩ := List.mem_map.mp ha
      obtain ⟨v, _, rfl⟩ := List.mem_map.mp hb
      exact W.alike_ints u v
    · have : ∀ l : List (List Int), PyData.depthAll (l.map intT) ≤ 1 := by
        intro l
        induction l with
        | nil => simp [PyData.depthAll]
        | cons y l ih =>
          rw [List.map_cons]
          unfold intT at ih ⊢
          simp only [PyData.depthAll, PyData.depth, (intsL y).2]
          omega
      have := this (x :: xs)
      omega
  have h2 : noneFree ((x :: xs).map intT) = true := by
    unfold noneFree
    rw [List.all_eq_true]
    intro a ha
    obtain ⟨u, _, rfl⟩ := List.mem_map.mp ha
    rfl
  rw [List.map_cons] at h1 h2 ⊢
  show (if alikeB _ && noneFree _ then some _ else none) = _
  rw [h1, h2]
  show some ((xs.map intT).foldl (fun a y => if W.dataLt y a = true then y else a) (intT x)) = _
  congr 1
  clear h1 h2
  unfold leastR
  induction xs generalizing x with
  | nil => rfl
  | cons y l ih =>
    rw [List.map_cons, List.foldl_cons, List.foldl_cons, dl, ← ih]
    congr 1
    by_cases c : y < x
    · simp [c]
    · simp [c]
end DV
end

section
/-! values with an order: the least, sorted -/
namespace DV
open PySem
/-- values of one make, with < -/
structure DO {α : Type} (emb : α → D) (lt : α → α → Bool) (n : Nat) : Prop where
  alike : ∀ a b, W.alike (emb a) (emb b) = true
  eqv : ∀ a b, PyData.eqv (emb a) (emb b) = true ↔ a = b
  dlt : ∀ a b, W.dataLt (emb a) (emb b) = lt a b
  irr : ∀ a, lt a a = false
  tri : ∀ a b, lt a b = false → lt b a = false → a = b
  tr : ∀ a b c, lt a b = true → lt b c = true → lt a c = true
  dep : ∀ a, (emb a).depth ≤ n
  nn : ∀ a, (match emb a with | .none => false | _ => true) = true
theorem DO.int : DO PyData.int (fun a b => decide (a < b)) 0 where
  alike _ _ := rfl
  eqv a b := by rw [eqvI]; simp
  dlt a b := W.dataLt_int a b
  irr a := by simp
  tri a b h1 h2 := by
    have := of_decide_eq_false h1
    have := of_decide_eq_false h2
    omega
  tr a b c h1 h2 := by
    have := of_decide_eq_true h1
    have := of_decide_eq_true h2
    exact decide_eq_true (by omega)
  dep _ := Nat.le_refl _
  nn _ := rfl
theorem DO.nat : DO natK (fun a b => decide (a < b)) 0 where
  alike _ _ := rfl
  eqv a b := by
    show PyData.eqv (.int (a : Int)) (.int (b : Int)) = true ↔ _
    rw [eqvI]
    simp
    omega
  dlt a b := by
    show W.dataLt (.int (a : Int)) (.int (b : Int)) = _
    rw [W.dataLt_int]
    by_cases h : a < b
    · rw [decide_eq_true h, decide_eq_true (by omega)]
    · rw [decide_eq_false h, decide_eq_false (by omega)]
  irr a := by simp
  tri a b h1 h2 := by
    have := of_decide_eq_false h1
    have := of_decide_eq_false h2
    omega
  tr a b c h1 h2 := by
    have := of_decide_eq_true h1
    have := of_decide_eq_true h2
    exact decide_eq_true (by omega)
  dep _ := Nat.le_refl _
  nn _ := rfl
def pairB {α β : Type} (l1 : α → α → Bool) (l2 : β → β → Bool) (p q : α × β) : Bool := l1 p.1 q.1 || (!l1 q.1 p.1 && l2 p.2 q.2)
def pairE {α β : Type} (e1 : α → D) (e2 : β → D) (p : α × β) : D := .tuple [e1 p.1, e2 p.2]
theorem DO.asym {α : Type} {emb : α → D} {lt : α → α → Bool} {n : Nat} (h : DO emb lt n) {a b : α} (hl : lt a b = true) : lt b a = false := by
  cases e : lt b a with
  | false => rfl
  | true =>
    have := h.tr a b a hl e
    rw [h.irr] at this
    cases this
theorem DO.ne {α : Type} {emb : α → D} {lt : α → α → Bool} {n : Nat} (h : DO emb lt n) {a b : α} (hl : lt a b = true) : PyData.eqv (emb a) (emb b) = false := by
  cases e : PyData.eqv (emb a) (emb b) with
  | false => rfl
  | true =>
    have := (h.eqv a b).mp e
    subst this
    rw [h.irr] at hl
    cases hl
theorem DO.pair {α β : Type} {e1 : α → D} {e2 : β → D} {l1 : α → α → Bool} {l2 : β → β → Bool} {n1 n2 n : Nat} (h1 : DO e1 l1 n1) (h2 : DO e2 l2 n2) (hn : n1 + 1 ≤ n) (hm : n2 + 1 ≤ n) : DO (pairE e1 e2) (pairB l1 l2) n where
  alike p q := by
    show (W.alike (e1 p.1) (e1 q.1) && (W.alike (e2 p.2) (e2 q.2) && true)) = true
    rw [h1.alike, h2.alike]
    rfl
  eqv p q := by
    have e : PyData.eqv (pairE e1 e2 p) (pairE e1 e2 q) = (PyData.eqv (e1 p.1) (e1 q.1) && PyData.eqv (e2 p.2) (e2 q.2)) := by
      show PyData.eqv (.tuple [e1 p.1, e2 p.2]) (.tuple [e1 q.1, e2 q.2]) = _
      simp [PyData.eqv, PyData.eqvAll]
    rw [e, Bool.and_eq_true, h1.eqv, h2.eqv]
    exact ⟨fun h => Prod.ext h.1 h.2, fun h => by rw [h]; exact ⟨rfl, rfl⟩⟩
  dlt p q := by
    show W.dataLt (.tuple [e1 p.1, e2 p.2]) (.tuple [e1 q.1, e2 q.2]) = _
    rw [W.dataLt_pair (h1.alike _ _) (h2.alike _ _), h1.dlt, h2.dlt]
    unfold pairB
    cases a : l1 p.1 q.1 with
    | true => rw [h1.ne a]; rfl
    | false =>
      cases b : l1 q.1 p.1 with
      | true =>
        have : PyData.eqv (e1 p.1) (e1 q.1) = false := by
          cases e : PyData.eqv (e1 p.1) (e1 q.1) with
          | false => rfl
          | true =>
            have := (h1.eqv _ _).mp e
            rw [this, h1.irr] at b
            exact b.symm
        rw [this]
        rfl
      | false =>
        have e := h1.tri _ _ a b
        rw [(h1.eqv _ _).mpr e]
        show (if PyData.eqv (e2 p.2) (e2 q.2) = true then false else l2 p.2 q.2) = l2 p.2 q.2
        by_cases c : PyData.eqv (e2 p.2) (e2 q.2) = true
        · rw [if_pos c, (h2.eqv _ _).mp c, h2.irr]
        · rw [if_neg c]
  irr p := by unfold pairB; rw [h1.irr, h2.irr]; rfl
  tri p q a b := by
    unfold pairB at a b
    rw [Bool.or_eq_false_iff] at a b
    have e := h1.tri _ _ a.1 b.1
    rw [b.1] at a
    rw [a.1] at b
    exact Prod.ext e (h2.tri _ _ (by simpa using a.2) (by simpa using b.2))
  tr p q r a b := by
    unfold pairB at a b ⊢
    rw [Bool.or_eq_true] at a b ⊢
    rcases a with a | a
    · rcases b with b | b
      · exact .inl (h1.tr _ _ _ a b)
      · rw [Bool.and_eq_true, Bool.not_eq_true'] at b
        left
        cases c : l1 q.1 r.1 with
        | true => exact h1.tr _ _ _ a c
        | false => rw [← h1.tri _ _ c b.1]; exact a
    · rw [Bool.and_eq_true, Bool.not_eq_true'] at a
      rcases b with b | b
      · left
        cases c : l1 p.1 q.1 with
        | true => exact h1.tr _ _ _ c b
        | false => rw [h1.tri _ _ c a.1]; exact b
      · rw [Bool.and_eq_true, Bool.not_eq_true'] at b
        cases c : l1 p.1 q.1 with
        | true =>
          left
          cases d : l1 q.1 r.1 with
          | true => exact h1.tr _ _ _ c d
          | false => rw [← h1.tri _ _ d b.1]; exact c
        | false =>
          have e := h1.tri _ _ c a.1
          right
          rw [Bool.and_eq_true, Bool.not_eq_true', e]
          exact ⟨b.1, h2.tr _ _ _ a.2 b.2⟩
  dep p := by
    have a := h1.dep p.1
    have b := h2.dep p.2
    show PyData.depth (.tuple [e1 p.1, e2 p.2]) ≤ n
    simp only [PyData.depth, PyData.depthAll]
    omega
  nn _ := rfl
def lexB {α : Type} (lt : α → α → Bool) : List α → List α → Bool
  | [], [] => false
  | [], _ :: _ => true
  | _ :: _, [] => false
  | x :: xs, y :: ys => lt x y || (!lt y x && lexB lt xs ys)
def tupE {α : Type} (emb : α → D) (l : List α) : D := .tuple (l.map emb)
section
variable {α : Type} {emb : α → D} {lt : α → α → Bool} {n : Nat}
theorem lex_alike (h : DO emb lt n) : ∀ a b : List α, W.alikeAll (a.map emb) (b.map emb) = true
  | [], [] => rfl
  | [], _ :: _ => rfl
  | _ :: _, [] => rfl
  | x :: xs, y :: ys => by
    show (W.alike (emb x) (emb y) && W.alikeAll (xs.map emb) (ys.map emb)) = true
    rw [h.alike, lex_alike h xs ys]
    rfl
theorem lex_eqv (h : DO emb lt n) : ∀ a b : List α, PyData.eqvAll (a.map emb) (b.map emb) = true ↔ a = b
  | [], [] => by simp [PyData.eqvAll]
  | [], _ :: _ => by simp [PyData.eqvAll]
  | _ :: _, [] => by simp [PyData.eqvAll]
  | x :: xs, y :: ys => by
    rw [List.map_cons, List.map_cons, W.eqv_all_cons, Bool.and_eq_true, h.eqv, lex_eqv h xs ys]
    exact ⟨fun q => by rw [q.1, q.2], fun q => by injection q with a b; exact ⟨a, b⟩⟩
theorem lex_lt (h : DO emb lt n) : ∀ a b : List α, W.rowLt (a.map emb) (b.map emb) = lexB lt a b
  | [], [] => by
    have := W.dataLt_ints [] []
    simpa [lexB] using this
  | [], y :: ys => by
    show W.rowLt [] (emb y :: ys.map emb) = true
    unfold W.rowLt
    rw [W.toks_all_cons]
    simp only [W.keyToksAll]
    rw [PyProof.Rows.lex_diff (O := PyProof.Rows.itemOrd) (by simp)]
    rfl
  | x :: xs, [] => by
    show W.rowLt (emb x :: xs.map emb) [] = false
    unfold W.rowLt
    rw [W.toks_all_cons]
    simp only [W.keyToksAll]
    rw [PyProof.Rows.lex_diff (O := PyProof.Rows.itemOrd) (by simp)]
    rfl
  | x :: xs, y :: ys => by
    show W.rowLt (emb x :: xs.map emb) (emb y :: ys.map emb) = (lt x y || (!lt y x && lexB lt xs ys))
    have ih := lex_lt h xs ys
    unfold W.rowLt at ih ⊢
    rw [W.dataLt_cons (h.alike x y), ih, h.dlt]
    cases a : lt x y with
    | true => rw [h.ne a]; rfl
    | false =>
      cases b : lt y x with
      | true =>
        have : PyData.eqv (emb x) (emb y) = false := by
          cases e : PyData.eqv (emb x) (emb y) with
          | false => rfl
          | true =>
            have := (h.eqv _ _).mp e
            rw [this, h.irr] at b
            exact b.symm
        rw [this]
        rfl
      | false =>
        rw [(h.eqv _ _).mpr (h.tri _ _ a b)]
        rfl
theorem lex_irr (h : DO emb lt n) : ∀ a : List α, lexB lt a a = false
  | [] => rfl
  | x :: xs => by
    show (lt x x || (!lt x x && lexB lt xs xs)) = false
    rw [h.irr, lex_irr h xs]
    rfl
theorem lex_tri (h : DO emb lt n) : ∀ a b : List α, lexB lt a b = false → lexB lt b a = false → a = b
  | [], [], _, _ => rfl
  | [], _ :: _, a, _ => by cases a
  | _ :: _, [], _, b => by cases b
  | x :: xs, y :: ys, a, b => by
    have a : (lt x y || (!lt y x && lexB lt xs ys)) = false := a
    have b : (lt y x || (!lt x y && lexB lt ys xs)) = false := b
    rw [Bool.or_eq_false_iff] at a b
    rw [b.1] at a
    rw [a.1] at b
    rw [h.tri x y a.1 b.1, lex_tri h xs ys (by simpa using a.2) (by simpa using b.2)]
theorem lex_tr (h : DO emb lt n) : ∀ a b c : List α, lexB lt a b = true → lexB lt b c = true → lexB lt a c = true
  | [], _, [], a, b => by
    rename_i y
    cases y with
    | nil => exact a
    | cons _ _ => cases b
  | [], _, _ :: _, _, _ => rfl
  | _ :: _, [], _, a, _ => by cases a
  | _ :: _, _ :: _, [], _, b => by cases b
  | x :: xs, y :: ys, z :: zs, a, b => by
    have a : (lt x y || (!lt y x && lexB lt xs ys)) = true := a
    have b : (lt y z || (!lt z y && lexB lt ys zs)) = true := b
    show (lt x z || (!lt z x && lexB lt xs zs)) = true
    rw [Bool.or_eq_true] at a b ⊢
    rcases a with a | a
    · rcases b with b | b
      · exact .inl (h.tr _ _ _ a b)
      · rw [Bool.and_eq_true, Bool.not_eq_true'] at b
        left
        cases c : lt y z with
        | true => exact h.tr _ _ _ a c
        | false => rw [← h.tri _ _ c b.1]; exact a
    · rw [Bool.and_eq_true, Bool.not_eq_true'] at a
      rcases b with b | b
      · left
        cases c : lt x y with
        | true => exact h.tr _ _ _ c b
        | false => rw [h.tri _ _ c a.1]; exact b
      · rw [Bool.and_eq_true, Bool.not_eq_true'] at b
        cases c : lt x y with
        | true =>
          left
          cases d : lt y z with
          | true => exact h.tr _ _ _ c d
          | false => rw [← h.tri _ _ d b.1]; exact c
        | false =>
          have e := h.tri _ _ c a.1
          right
          rw [Bool.and_eq_true, Bool.not_eq_true', e]
          exact ⟨b.1, lex_tr h _ _ _ a.2 b.2⟩
theorem map_dep (h : DO emb lt n) : ∀ a : List α, PyData.depthAll (a.map emb) ≤ n
  | [] => by simp [PyData.depthAll]
  | x :: xs => by
    have a := h.dep x
    have b := map_dep h xs
    rw [List.map_cons]
    simp only [PyData.depthAll]
    omega
theorem DO.tup {m : Nat} (h : DO emb lt n) (hm : n + 1 ≤ m) : DO (tupE emb) (lexB lt) m where
  alike a b := lex_alike h a b
  eqv a b := by
    have : PyData.eqv (tupE emb a) (tupE emb b) = PyData.eqvAll (a.map emb) (b.map emb) := by unfold tupE; rw [PyData.eqv]
    rw [this]
    exact lex_eqv h a b
  dlt a b := lex_lt h a b
  irr := lex_irr h
  tri := lex_tri h
  tr := lex_tr h
  dep a := by
    have := map_dep h a
    show PyData.depth (.tuple (a.map emb)) ≤ m
    simp only [PyData.depth]
    omega
  nn _ := rfl
/-- the first of the least -/
def leastB (lt : α → α → Bool) (x : α) (xs : List α) : α := xs.foldl (fun a y => if lt y a = true then y else a) x
theorem leastB_ok (h : DO emb lt n) : ∀ (xs : List α) (x : α), leastB lt x xs ∈ x :: xs ∧ ∀ y ∈ x :: xs, lt y (leastB lt x xs) = false
  | [], x => ⟨List.mem_cons_self, fun y hy => by
    rw [List.mem_singleton.mp hy]
    exact h.irr x⟩
  | y :: xs, x => by
    have e : leastB lt x (y :: xs) = leastB lt (if lt y x = true then y else x) xs := rfl
    obtain ⟨h1, h2⟩ := leastB_ok h xs (if lt y x = true then y else x)
    rw [e]
    refine ⟨?_, fun z hz => ?_⟩
    · rcases List.mem_cons.mp h1 with q | q
      · rw [q]
        by_cases c : lt y x = true
        · rw [if_pos c]; simp
        · rw [if_neg c]; simp
      · simp [q]
    · have h3 := h2 _ List.mem_cons_self
      rcases List.mem_cons.mp hz with rfl | hz
      · by_cases c : lt y z = true
        · rw [if_pos c] at h3 ⊢
          cases q : lt z (leastB lt y xs) with
          | false => rfl
          | true => rw [h.tr _ _ _ c q] at h3; exact h3
        · rw [if_neg c] at h3 ⊢
          exact h3
      · rcases List.mem_cons.mp hz with rfl | hz
        · by_cases c : lt z x = true
          · rw [if_pos c] at h3 ⊢
            exact h3
          · rw [if_neg c] at h3 ⊢
            cases q : lt z (leastB lt x xs) with
            | false => rfl
            | true =>
              cases d : lt x z with
              | true => rw [h.tr _ _ _ d q] at h3; exact h3
              | false =>
                have e2 := h.tri _ _ d (Bool.eq_false_iff.mpr c)
                rw [e2] at h3 q
                rw [h3] at q
                cases q
        · exact h2 z (List.mem_cons_of_mem _ hz)
/-- what is least is one alone -/
theorem least_one (h : DO emb lt n) {l : List α} {a b : α} (ha : a ∈ l) (hb : b ∈ l) (la : ∀ y ∈ l, lt y a = false) (lb : ∀ y ∈ l, lt y b = false) : a = b := h.tri _ _ (lb a ha) (la b hb)
theorem alikeB_map (h : DO emb lt n) (hn : n ≤ 40) (l : List α) : alikeB (l.map emb) = true := by
  unfold alikeB
  rw [Bool.and_eq_true]
  refine ⟨?_, decide_eq_true (Nat.le_trans (map_dep h l) hn)⟩
  rw [List.all_eq_true]
  intro a ha
  rw [List.all_eq_true]
  intro b hb
  obtain ⟨u, _, rfl⟩ := List.mem_map.mp ha
  obtain ⟨v, _, rfl⟩ := List.mem_map.mp hb
  exact h.alike u v
theorem noneFree_map (h : DO emb lt n) (l : List α) : noneFree (l.map emb) = true := by
  unfold noneFree
  rw [List.all_eq_true]
  intro a ha
  obtain ⟨u, _, rfl⟩ := List.mem_map.mp ha
  exact h.nn u
theorem bestF_min (h : DO emb lt n) (hn : n ≤ 40) (x : α) (xs : List α) : bestF (fun y x => W.dataLt y x) ((x :: xs).map emb) = some (emb (leastB lt x xs)) := by
  have h1 := alikeB_map h hn (x :: xs)
  have h2 := noneFree_map h (x :: xs)
  rw [List.map_cons] at h1 h2 ⊢
  show (if alikeB _ && noneFree _ then some _ else none) = _
  rw [h1, h2]
  show some ((xs.map emb).foldl (fun a y => if W.dataLt y a = true then y else a) (emb x)) = _
  congr 1
  clear h1 h2
  unfold leastB
  induction xs generalizing x with
  | nil => rfl
  | cons y l ih =>
    rw [List.map_cons, List.foldl_cons, List.foldl_cons, h.dlt, ← ih]
    congr 1
    by_cases c : lt y x = true
    · rw [if_pos c, if_pos c]
    · rw [if_neg c, if_neg c]
theorem min_DO (h : DO emb lt n) (hn : n ≤ 40) (x : α) (xs : List α) : primF .min1 [.list ((x :: xs).map emb)] = some (emb (leastB lt x xs)) := bestF_min h hn x xs
/-- the first of the greatest -/
def mostB (lt : α → α → Bool) (x : α) (xs : List α) : α := xs.foldl (fun a y => if lt a y = true then y else a) x
theorem bestF_max (h : DO emb lt n) (hn : n ≤ 40) (x : α) (xs : List α) : bestF (fun y x => W.dataLt x y) ((x :: xs).map emb) = some (emb (mostB lt x xs)) := by
  have h1 := alikeB_map h hn (x :: xs)
  have h2 := noneFree_map h (x :: xs)
  rw [List.map_cons] at h1 h2 ⊢
  show (if alikeB _ && noneFree _ then some _ else none) = _
  rw [h1, h2]
  show some ((xs.map emb).foldl (fun a y => if W.dataLt a y = true then y else a) (emb x)) = _
  congr 1
  clear h1 h2
  unfold mostB
  induction xs generalizing x with
  | nil => rfl
  | cons y l ih =>
    rw [List.map_cons, List.foldl_cons, List.foldl_cons, h.dlt, ← ih]
    congr 1
    by_cases c : lt x y = true
    · rw [if_pos c, if_pos c]
    · rw [if_neg c, if_neg c]
def sortB (lt : α → α → Bool) (l : List α) : List α := l.mergeSort fun a b => !lt b a
theorem sortD_map (h : DO emb lt n) (l : List α) : sortD (l.map emb) = (sortB lt l).map emb := by
  unfold sortD sortB
  rw [List.map_mergeSort]
  intro a _ b _
  rw [h.dlt]
end
end DV
end

section
/-! constants of a module -/
namespace DV
open PySem PySem.Spec PyProof.Rows L2
def denL (f : Value → Option D) : List Value → Option (List D)
  | [] => some []
  | v :: vs => (f v).bind fun d => (denL f vs).map (d :: ·)
def denObj (f : Value → Option D) (o : Obj) : Option D := match o.cls with
  | .type t => if t = "tuple" then (match o.data with
    | .seq its _ => if its.size ≤ sizeLine then (denL f its.toList).map .tuple else none
    | _ => none) else none
  | _ => none
/-- what a value of the frozen part denotes -/
def denK (K : PySem.W.Frag) : Nat → Value → Option D
  | 0, _ => none
  | n + 1, v => match v with
    | .none => some .none
    | .bool b => some (.bool b)
    | .int i _ => some (.int i)
    | .str s _ => if s.length ≤ sizeLine then some (.str s) else none
    | .ref a => match K.lookup a with
      | some o => denObj (denK K n) o
      | none => none
    | _ => none
def glbK (K : PySem.W.Frag) (x : Str) (n : Nat) : Option D := match PySem.W.nsIn K mainGlobals x with
  | some (some u) => denK K n u
  | _ => none
theorem denL_ok {K : PySem.W.Frag} {w : World} {f : Value → Option D} (hf : ∀ v d, f v = some d → ∃ x, RelV x v ∧ ∀ P H, Den K w P H x d) : ∀ (vs : List Value) (ds : List D), denL f vs = some ds → ∃ xs, Vals xs vs ∧ ∀ P H, DenL K w P H xs ds
  | [], ds, h => by
    cases h
    exact ⟨[], .nil, fun _ _ => .nil⟩
  | v :: vs, ds, h => by
    obtain ⟨d, h1, h2⟩ := Option.bind_eq_some_iff.mp h
    obtain ⟨ds', h3, rfl⟩ := Option.map_eq_some_iff.mp h2
    obtain ⟨x, r, hx⟩ := hf v d h1
    obtain ⟨xs, rs, hxs⟩ := denL_ok hf vs ds' h3
    exact ⟨x :: xs, .cons r rs, fun P H => .cons (hx P H) (hxs P H)⟩
theorem denK_ok {K : PySem.W.Frag} {w : World} : ∀ (n : Nat) (v : Value) (d : D), denK K n v = some d → ∃ x, RelV x v ∧ ∀ P H, Den K w P H x d := by
  intro n
  induction n with
  | zero => intro v d h; cases h
  | succ n ih =>
    intro v d h
    cases v with
    | none => cases h; exact ⟨.non, rfl, fun _ _ => .non⟩
    | bool b => cases h; exact ⟨.bl b, rfl, fun _ _ => .bl b⟩
    | int i t => cases h; exact ⟨.int i, ⟨t, rfl⟩, fun _ _ => .int i⟩
    | str s t =>
      have h : (if s.length ≤ sizeLine then some (PyData.str s) else none) = some d := h
      by_cases c : s.length ≤ sizeLine
      · rw [if_pos c] at h
        cases h
        exact ⟨.str s, ⟨t, rfl⟩, fun _ _ => .str s c⟩
      · rw [if_neg c] at h
        cases h
    | ref a =>
      have h : (match K.lookup a with | some o => denObj (denK K n) o | none => none) = some d := h
      cases hl : K.lookup a with
      | none => rw [hl] at h; cases h
      | some o =>
        rw [hl] at h
        have h : denObj (denK K n) o = some d := h
        unfold denObj at h
        split at h
        · rename_i t hc
          by_cases ct : t = "tuple"
          · rw [if_pos ct] at h
            split at h
            · rename_i its m hd
              by_cases cs : its.size ≤ sizeLine
              · rw [if_pos cs] at h
                obtain ⟨ds, h1, rfl⟩ := Option.map_eq_some_iff.mp h
                obtain ⟨xs, rs, hxs⟩ := denL_ok ih _ _ h1
                refine ⟨.ref a, rfl, fun P H => .tupK (fun H => .inr ⟨o, its, m, hl, ?_, hd, cs, rs⟩) (hxs P H)⟩
                rw [hc, ct]
              · rw [if_neg cs] at h
                cases h
            · cases h
          · rw [if_neg ct] at h
            cases h
        · cases h
    | _ => cases h
theorem glb_of {K : PySem.W.Frag} {w : World} {h : Heap} {mg : Str → Option Value} {x : Str} {n : Nat} {d : D} (X : K.In h) (G : h.Ns mainGlobals mg) (e : glbK K x n = some d) : ∃ v u, mg x = some u ∧ RelV v u ∧ ∀ P H, Den K w P H v d := by
  unfold glbK at e
  split at e
  · rename_i u hu
    obtain ⟨v, r, hv⟩ := denK_ok (w := w) n u d e
    exact ⟨v, u, PySem.W.mg_of X G hu, r, hv⟩
  · cases e
end DV
end

section
/-! texts in order, keys that are tuples, == of values with an order -/
namespace DV
open PySem
theorem eq_nilT {xs : List D} (h : okD (.tuple xs) = true) : eqF (.tuple xs) (.tuple []) = some xs.isEmpty := by
  unfold eqF
  have : okD (.tuple []) = true := by decide +kernel
  rw [h, this]
  cases xs with
  | nil => decide +kernel
  | cons x xs => show some (PyData.eqv (.tuple (x :: xs)) (.tuple [])) = _; congr 1
theorem ok_al {d : D} (h : alD d = true) (h2 : dpD d ≤ 30) : okD d = true := by
  obtain ⟨a, b⟩ := al_plain d h
  unfold okD
  rw [a, Bool.true_and]
  exact decide_eq_true (by omega)
section
variable {α : Type} {emb : α → D} {lt : α → α → Bool} {n : Nat}
theorem eq_DO [DecidableEq α] (h : DO emb lt n) (hn : n ≤ 40) (a b : α) (ha : (emb a).plain = true) (hb : (emb b).plain = true) : eqF (emb a) (emb b) = some (decide (a = b)) := by
  have ok : ∀ x, (emb x).plain = true → okD (emb x) = true := fun x hx => by
    unfold okD
    rw [hx, Bool.true_and]
    exact decide_eq_true (Nat.le_trans (h.dep x) hn)
  unfold eqF
  rw [ok a ha, ok b hb]
  show some (PyData.eqv (emb a) (emb b)) = _
  congr 1
  by_cases c : a = b
  · rw [(h.eqv a b).mpr c, decide_eq_true c]
  · rw [decide_eq_false c]
    cases e : PyData.eqv (emb a) (emb b) with
    | false => rfl
    | true => exact absurd ((h.eqv a b).mp e) c
theorem DO.comp {β : Type} (h : DO emb lt n) (f : β → α) (hf : ∀ a b, f a = f b → a = b) : DO (fun b => emb (f b)) (fun a b => lt (f a) (f b)) n where
  alike a b := h.alike _ _
  eqv a b := ⟨fun e => hf _ _ ((h.eqv _ _).mp e), fun e => (h.eqv _ _).mpr (by rw [e])⟩
  dlt a b := h.dlt _ _
  irr a := h.irr _
  tri a b h1 h2 := hf _ _ (h.tri _ _ h1 h2)
  tr a b c h1 h2 := h.tr _ _ _ h1 h2
  dep a := h.dep _
  nn a := h.nn _
theorem plain_map (h : ∀ a, (emb a).plain = true) : ∀ l : List α, PyData.plainAll (l.map emb) = true
  | [] => rfl
  | a :: l => by
    rw [List.map_cons]
    simp only [PyData.plainAll, h a, plain_map h l, Bool.and_self]
theorem plain_tup (h : ∀ a, (emb a).plain = true) (l : List α) : (tupE emb l).plain = true := by
  show PyData.plain (.tuple (l.map emb)) = true
  simp only [PyData.plain, plain_map h l]
end
theorem lt_triN : ∀ {a b : List Nat}, ¬ a < b → ¬ b < a → a = b
  | [], [], _, _ => rfl
  | [], y :: ys, h, _ => absurd (List.nil_lt_cons y ys) h
  | x :: xs, [], _, h => absurd (List.nil_lt_cons x xs) h
  | x :: xs, y :: ys, h1, h2 => by
    rw [List.cons_lt_cons_iff] at h1 h2
    have e : x = y := by
      rcases Nat.lt_trichotomy x y with h | h | h
      · exact absurd (.inl h) h1
      · exact h
      · exact absurd (.inl h) h2
    subst e
    rw [lt_triN (fun q => h1 (.inr ⟨rfl, q⟩)) fun q => h2 (.inr ⟨rfl, q⟩)]
theorem cps_inj {a b : Str} (h : a.cps.toList = b.cps.toList) : a = b := by
  cases a; cases b
  simp at h
  rw [h]
theorem DO.str : DO PyData.str (fun a b => decide (a.cps.toList < b.cps.toList)) 0 where
  alike _ _ := rfl
  eqv a b := by
    have : PyData.eqv (.str a) (.str b) = decide (a = b) := by first | rfl | simp [PyData.eqv]
    rw [this]
    simp
  dlt a b := W.dataLt_str a b
  irr a := by
    exact decide_eq_false (List.lt_irrefl _)
  tri a b h1 h2 := cps_inj (lt_triN (of_decide_eq_false h1) (of_decide_eq_false h2))
  tr a b c h1 h2 := decide_eq_true (List.lt_trans (of_decide_eq_true h1) (of_decide_eq_true h2))
  dep _ := Nat.le_refl _
  nn _ := rfl
/-! keys that are tuples -/
theorem keyTuple {α : Type} {key : α → D} (h : ∀ a, tupKey (key a) = true) (hi : ∀ a b, keyN (key a) = keyN (key b) → a = b) : KeyFn key := ⟨hi, fun kvs a hk => by
  unfold keyOk
  rw [Bool.or_eq_true]
  right
  rw [h a, Bool.true_and, List.all_eq_true]
  intro p hp
  obtain ⟨b, e⟩ := hk p hp
  rw [e]
  exact h b⟩
theorem key_nn : KeyFn prD := keyTuple (fun a => rfl) fun a b h => by
  have h : some (NestedKey.tup [.num (a.1 : Int), .num (a.2 : Int)]) = some (NestedKey.tup [.num (b.1 : Int), .num (b.2 : Int)]) := h
  simp at h
  exact Prod.ext (by omega) (by omega)
def prbD (p : Nat × Nat × Bool) : D := .tuple [natK p.1, natK p.2.1, .bool p.2.2]
theorem key_nnb : KeyFn prbD := keyTuple (fun a => rfl) fun a b h => by
  obtain ⟨i, j, x⟩ := a
  obtain ⟨i', j', x'⟩ := b
  have h : some (NestedKey.tup [.num (i : Int), .num (j : Int), .num (if x = true then 1 else 0)]) = some (NestedKey.tup [.num (i' : Int), .num (j' : Int), .num (if x' = true then 1 else 0)]) := h
  simp at h
  obtain ⟨h1, h2, h3⟩ := h
  have h4 : x = x' := by cases x <;> cases x' <;> simp at h3 <;> rfl
  rw [h4]
  have : i = i' := by omega
  have : j = j' := by omega
  subst_vars
  rfl
/-- where a walk down stands -/
theorem down_from {n b : Nat} {ys zs : List Nat} (h : downTo n = ys ++ b :: zs) : ys.length < n ∧ b = n - 1 - ys.length := down_at h
end DV
end

section
/-! sorted(set(xs)); a member of a row -/
namespace DV
open PySem
theorem intsOf_map : ∀ ns : List Int, intsOf (ns.map .int) = some ns
  | [] => rfl
  | n :: ns => by
    show (intsOf (ns.map .int)).map (n :: ·) = _
    rw [intsOf_map ns]
    rfl
theorem sset_ints {l m : List Int} (hl : l.length ≤ 4000) (h : ∀ x, x ∈ m ↔ x ∈ l) (hs : m.Pairwise (· < ·)) : primF .sortedSet [.list (l.map .int)] = some (.list (m.map .int)) := by
  show ssetF (l.map .int) = _
  unfold ssetF
  rw [if_neg (by rw [List.length_map]; omega), intsOf_map]
  have irr : ∀ a : Int, decide (a < a) = false := fun a => by simp
  have tr : ∀ a b c : Int, decide (a < b) = true → decide (b < c) = true → decide (a < c) = true := fun a b c h1 h2 => by
    have := of_decide_eq_true h1
    have := of_decide_eq_true h2
    exact decide_eq_true (by omega)
  obtain ⟨a, e1, p1, q1⟩ := sort_strict (emb := PyData.int) (lt := fun a b => decide (a < b)) (fun a b => W.dataLt_int a b) irr (fun a b h1 h2 => by
    have := of_decide_eq_false h1
    have := of_decide_eq_false h2
    omega) tr (nodup_ddL l)
  have e : a = m := strict_eq irr tr a m q1 (hs.imp fun h => decide_eq_true h) fun x => by rw [p1.mem_iff, mem_ddL, h]
  dsimp only
  rw [e1, e]
theorem sset_nats {l m : List Nat} (hl : l.length ≤ 4000) (h : ∀ x, x ∈ m ↔ x ∈ l) (hs : m.Pairwise (· < ·)) : primF .sortedSet [.list (l.map natK)] = some (.list (m.map natK)) := by
  have := sset_ints (l := l.map fun k : Nat => (k : Int)) (m := m.map fun k : Nat => (k : Int)) (by rw [List.length_map]; exact hl) (fun x => by
    rw [List.mem_map, List.mem_map]
    exact ⟨fun ⟨a, ha, e⟩ => ⟨a, (h a).mp ha, e⟩, fun ⟨a, ha, e⟩ => ⟨a, (h a).mpr ha, e⟩⟩) (List.pairwise_map.mpr (hs.imp fun h => by omega))
  rw [List.map_map, List.map_map] at this
  exact this
theorem strsOf_map3 : ∀ ns : List Str, strsOf (ns.map .str) = some ns
  | [] => rfl
  | n :: ns => by
    show (strsOf (ns.map .str)).map (n :: ·) = _
    rw [strsOf_map3 ns]
    rfl
theorem intsOf_strs {s : Str} {l : List Str} : intsOf ((s :: l).map .str) = none := rfl
/-- the sorted texts of a list, each once -/
theorem sset_strs {l m : List Str} (hl : l.length ≤ 4000) (h : ∀ x, x ∈ m ↔ x ∈ l) (hs : m.Pairwise fun a b => a.cps.toList < b.cps.toList) : primF .sortedSet [.list (l.map .str)] = some (.list (m.map .str)) := by
  show ssetF (l.map .str) = _
  cases l with
  | nil =>
    cases m with
    | nil => exact sset_ints (l := []) (m := []) (by simp) (fun _ => Iff.rfl) List.Pairwise.nil
    | cons x m => cases (h x).mp List.mem_cons_self
  | cons s l =>
    unfold ssetF
    rw [if_neg (by rw [List.length_map]; omega), intsOf_strs, strsOf_map3]
    have irr : ∀ a : Str, decide (a.cps.toList < a.cps.toList) = false := fun a => decide_eq_false (List.lt_irrefl _)
    have tr : ∀ a b c : Str, decide (a.cps.toList < b.cps.toList) = true → decide (b.cps.toList < c.cps.toList) = true → decide (a.cps.toList < c.cps.toList) = true := fun a b c h1 h2 => decide_eq_true (List.lt_trans (of_decide_eq_true h1) (of_decide_eq_true h2))
    obtain ⟨a, e1, p1, q1⟩ := sort_strict (emb := PyData.str) (lt := fun a b => decide (a.cps.toList < b.cps.toList)) (fun a b => W.dataLt_str a b) irr (fun a b h1 h2 => cps_eq (natlist_tri (of_decide_eq_false h1) (of_decide_eq_false h2))) tr (nodup_ddL (s :: l))
    have e : a = m := strict_eq irr tr a m q1 (hs.imp fun h => decide_eq_true h) fun x => by rw [p1.mem_iff, mem_ddL, h]
    dsimp only
    rw [e1, e]
section
variable {α : Type} {emb : α → D} {lt : α → α → Bool} {n : Nat}
theorem in_DO [DecidableEq α] (h : DO emb lt n) (hn : n ≤ 39) (a : α) (l : List α) (hp : ∀ x, (emb x).plain = true) : inF (emb a) (.tuple (l.map emb)) = some (decide (a ∈ l)) := by
  have o1 : okD (emb a) = true := by
    unfold okD
    rw [hp, decide_eq_true (by have := h.dep a; omega)]
    rfl
  have o2 : okD (.tuple (l.map emb)) = true := by
    have d := (h.tup (m := n + 1) (Nat.le_refl _)).dep l
    have p := plain_tup hp l
    unfold tupE at d p
    unfold okD
    rw [p, decide_eq_true (by omega)]
    rfl
  show (if (okD (emb a) && okD (.tuple (l.map emb))) = true then some ((l.map emb).any fun z => PyData.eqv z (emb a)) else none) = _
  rw [o1, o2, if_pos (show (true && true) = true from rfl)]
  congr 1
  rw [List.any_map]
  by_cases c : a ∈ l
  · rw [decide_eq_true c, List.any_eq_true]
    exact ⟨a, c, (h.eqv a a).mpr rfl⟩
  · rw [decide_eq_false c]
    refine Bool.eq_false_iff.mpr fun q => ?_
    obtain ⟨x, hx, e⟩ := List.any_eq_true.mp q
    have e := (h.eqv x a).mp e
    subst e
    exact c hx
end
/-- a list that is drawn in a helper of the law -/
theorem comp_draw0 {α : Type} {C : Call} {v : Nat} {it : It} {elt : IE} {ρ : Ro} {xs : List D} {ds : List Int} {k : Nat} {r : Ro} (emb : α → D) (P : α → Prop) (hi : evI C it ρ = some (xs, .ow (wN ds k) :: r)) (no : noOw (.ow (wN ds k) :: r) [v + 1] = true) (hl : xs.length ≤ sizeLine) (hv : v < r.length)
    (hb : ∀ x ∈ xs, ∀ k, ∃ a k', evE C elt (.ow (wN ds k) :: r.set v (.sh x)) = some (emb a, .ow (wN ds k') :: r.set v (.sh x)) ∧ P a) :
    ∃ (l : List α) (k' : Nat), l.length = xs.length ∧ (∀ a ∈ l, P a) ∧ evE C (.comp [v + 1] (.nm (v + 1)) it .nil elt) ρ = some (.list (l.map emb), .ow (wN ds k') :: r) := by
  obtain ⟨ys, ρw, e, ⟨k', rfl⟩, l, p⟩ := comp_evI (C := C) (vs := [v + 1]) (t := .nm (v + 1)) (it := it) (elt := elt) (ρ := ρ) (fun ρw => ∃ k', ρw = .ow (wN ds k') :: r.set v .no) (fun y => ∃ a, y = emb a ∧ P a) hi no hl ⟨k, rfl⟩ (fun x hx ρw hw => by
    obtain ⟨k1, rfl⟩ := hw
    obtain ⟨a, k2, e1, ha⟩ := hb x hx k1
    refine ⟨.ow (wN ds k1) :: r.set v (.sh x), emb a, .ow (wN ds k2) :: r.set v (.sh x), ?_, e1, ⟨k2, ?_⟩, a, rfl, ha⟩
    · show some (((.ow (wN ds k1) :: r.set v .no : Ro)).set (v + 1) (.sh x)) = _
      rw [List.set_cons_succ, List.set_set]
    · show ((.ow (wN ds k2) :: r.set v (.sh x) : Ro)).set (v + 1) .no = _
      rw [List.set_cons_succ, List.set_set])
  obtain ⟨m, rfl, hm⟩ := list_image p
  refine ⟨m, k', by rw [List.length_map] at l; exact l, hm, ?_⟩
  rw [e]
  congr 2
  show ((.ow (wN ds k') :: r.set v .no : Ro)).set (v + 1) ((.ow (wN ds k) :: r : Ro).getD (v + 1) .no) = _
  rw [List.set_cons_succ, List.set_set]
  congr 2
  have : ((.ow (wN ds k) :: r : Ro).getD (v + 1) .no) = r.getD v .no := by
    rw [List.getD_cons_succ]
  rw [this]
  apply List.ext_getElem?
  intro j
  by_cases hj : v = j
  · subst hj
    rw [List.getElem?_set_self hv, List.getElem?_eq_getElem hv, List.getD_eq_getElem?_getD, List.getElem?_eq_getElem hv]
    rfl
  · rw [List.getElem?_set_ne hj]
end DV
end

section
/-! small values -/
namespace DV
open PySem
def Sm (m c : Nat) (d : D) : Prop := alD d = true ∧ dpD d ≤ m ∧ szD d ≤ c
theorem Sm.up {m c m' c' : Nat} {d : D} (h : Sm m c d) (h1 : m ≤ m') (h2 : c ≤ c') : Sm m' c' d := ⟨h.1, Nat.le_trans h.2.1 h1, Nat.le_trans h.2.2 h2⟩
theorem sm_all {m c : Nat} : ∀ {xs : List D}, (∀ x ∈ xs, Sm m c x) → alDs xs = true ∧ dpDs xs ≤ m ∧ szDs xs ≤ xs.length * c
  | [], _ => ⟨rfl, Nat.zero_le _, Nat.zero_le _⟩
  | x :: xs, h => by
    obtain ⟨a1, a2, a3⟩ := h x List.mem_cons_self
    obtain ⟨b1, b2, b3⟩ := sm_all fun y hy => h y (List.mem_cons_of_mem _ hy)
    refine ⟨?_, ?_, ?_⟩
    · show (alD x && alDs xs) = true
      rw [a1, b1]
      rfl
    · show max (dpD x) (dpDs xs) ≤ m
      omega
    · show szD x + szDs xs ≤ (xs.length + 1) * c
      rw [Nat.add_mul]
      omega
theorem Sm.tup {m c k : Nat} {xs : List D} (h : ∀ x ∈ xs, Sm m c x) (hl : xs.length ≤ k) (hk : k ≤ 1000000) : Sm (m + 1) (k * c + 1) (.tuple xs) := by
  obtain ⟨a, b, d⟩ := sm_all h
  refine ⟨?_, ?_, ?_⟩
  · show (alDs xs && decide (xs.length ≤ 1000000)) = true
    rw [a, decide_eq_true (by omega)]
    rfl
  · show dpDs xs + 1 ≤ m + 1
    omega
  · show szDs xs + 1 ≤ k * c + 1
    have := Nat.mul_le_mul_right c hl
    omega
theorem Sm.map {α : Type} {m c k : Nat} {f : α → D} {l : List α} (h : ∀ x ∈ l, Sm m c (f x)) (hl : l.length ≤ k) (hk : k ≤ 1000000) : Sm (m + 1) (k * c + 1) (.tuple (l.map f)) :=
  Sm.tup (fun x hx => by
    obtain ⟨a, ha, rfl⟩ := List.mem_map.mp hx
    exact h a ha) (by rw [List.length_map]; exact hl) hk
theorem sm_int (i : Int) : Sm 0 1 (.int i) := ⟨rfl, Nat.le_refl _, Nat.le_refl _⟩
theorem sm_nat (i : Nat) : Sm 0 1 (natK i) := ⟨rfl, Nat.le_refl _, Nat.le_refl _⟩
theorem sm_str (i : Str) : Sm 0 1 (.str i) := ⟨rfl, Nat.le_refl _, Nat.le_refl _⟩
theorem sm_bool (i : Bool) : Sm 0 1 (.bool i) := ⟨rfl, Nat.le_refl _, Nat.le_refl _⟩
theorem sm_none : Sm 0 1 .none := ⟨rfl, Nat.le_refl _, Nat.le_refl _⟩
end DV
end

namespace K24
open PySem DV
/-- is tuple of: 0 thing, 1 many -/
def fi0 : Fi := { io := [false, false], slots := 2, body := (.cons (.ret (.and (.prim (.isi "tuple") (.cons (.var 0) .nil)) (.prim (.cmp .Eq) (.cons (.prim .len (.cons (.var 0) .nil)) (.cons (.var 1) .nil))))) .nil) }
/-- is word: 0 thing -/
def fi1 : Fi := { io := [false], slots := 1, body := (.cons (.ret (.and (.prim (.isi "str") (.cons (.var 0) .nil)) (.and (.prim (.cmp .NotEq) (.cons (.var 0) (.cons (.con (.str ⟨#[]⟩)) .nil))) (.and (.prim (.cmp .NotIn) (.cons (.con (.str ⟨#[32]⟩)) (.cons (.var 0) .nil))) (.prim (.cmp .NotIn) (.cons (.con (.str ⟨#[10]⟩)) (.cons (.var 0) .nil))))))) .nil) }
/-- are words: 0 thing, 1 one -/
def fi2 : Fi := { io := [false], slots := 2, body := (.cons (.ret (.and (.prim (.isi "tuple") (.cons (.var 0) .nil)) (.prim .all (.cons (.comp [1] (.nm 1) (.val (.var 0)) .nil (.call 1 (.cons (.var 1) .nil))) .nil)))) .nil) }
/-- is mended: 0 thing, 1 one -/
def fi3 : Fi := { io := [false], slots := 2, body := (.cons (.iff (.or (.not (.prim (.isi "tuple") (.cons (.var 0) .nil))) (.not (.prim .all (.cons (.comp [1] (.nm 1) (.val (.var 0)) .nil (.call 0 (.cons (.var 1) (.cons (.con (.int 2)) .nil)))) .nil)))) (.cons (.ret (.con (.bool false))) .nil) .nil) (.cons (.ret (.prim .all (.cons (.comp [1] (.nm 1) (.val (.var 0)) .nil (.and (.prim (.isi "str") (.cons (.prim .ix (.cons (.var 1) (.cons (.con (.int 0)) .nil))) .nil)) (.and (.prim (.cmp .In) (.cons (.prim .ix (.cons (.var 1) (.cons (.con (.int 0)) .nil))) (.cons (.glb (.tuple [(.str ⟨#[107, 101, 101, 112]⟩), (.str ⟨#[115, 116, 114, 105, 107, 101]⟩), (.str ⟨#[112, 117, 116]⟩)])) .nil))) (.call 1 (.cons (.prim .ix (.cons (.var 1) (.cons (.con (.int 1)) .nil))) .nil))))) .nil))) .nil)) }
/-- text ahead: 0 mended, 1 kind, 2 word -/
def fi4 : Fi := { io := [false], slots := 3, body := (.cons (.ret (.prim .tuple (.cons (.comp [1, 2] (.tp (.cons (.nm 1) (.cons (.nm 2) .nil))) (.val (.var 0)) (.cons (.prim (.cmp .NotEq) (.cons (.var 1) (.cons (.con (.str ⟨#[112, 117, 116]⟩)) .nil))) .nil) (.var 2)) .nil))) .nil) }
/-- text behind: 0 mended, 1 kind, 2 word -/
def fi5 : Fi := { io := [false], slots := 3, body := (.cons (.ret (.prim .tuple (.cons (.comp [1, 2] (.tp (.cons (.nm 1) (.cons (.nm 2) .nil))) (.val (.var 0)) (.cons (.prim (.cmp .NotEq) (.cons (.var 1) (.cons (.con (.str ⟨#[115, 116, 114, 105, 107, 101]⟩)) .nil))) .nil) (.var 2)) .nil))) .nil) }
/-- ink of: 0 mended, 1 line, 2 found, 3 ahead, 4 kind, 5 word -/
def fi6 : Fi := { io := [false, false], slots := 6, body := (.cons (.par [(2, false), (3, false)] (.cons (.con (.int 0)) (.cons (.con .none) .nil))) (.cons (.for_ (.tp (.cons (.nm 4) (.cons (.nm 5) .nil))) (.val (.var 0)) (.cons (.iff (.prim (.cmp .Eq) (.cons (.var 4) (.cons (.con (.str ⟨#[112, 117, 116]⟩)) .nil))) (.cons (.aug 2 .Add (.prim (.bin .Add) (.cons (.prim .len (.cons (.var 5) .nil)) (.cons (.con (.int 1)) .nil)))) .nil) (.cons (.iff (.and (.prim (.cmp .Eq) (.cons (.var 4) (.cons (.con (.str ⟨#[115, 116, 114, 105, 107, 101]⟩)) .nil))) (.prim (.cmp .NotEq) (.cons (.var 3) (.cons (.con (.str ⟨#[115, 116, 114, 105, 107, 101]⟩)) .nil)))) (.cons (.aug 2 .Add (.var 1)) .nil) .nil) .nil)) (.cons (.asg (.nm 3) false (.var 4)) .nil))) (.cons (.ret (.var 2)) .nil))) }
/-- least ink: 0 old, 1 new, 2 line, 3 best, 4 i, 5 j, 6 ahead -/
def fi7 : Fi := { io := [false, false, false], slots := 7, body := (.cons (.asg (.nm 3) true (.dic .nil)) (.cons (.for_ (.nm 4) (.rng (.cons (.prim .len (.cons (.var 0) .nil)) (.cons (.prim .neg (.cons (.con (.int 1)) .nil)) (.cons (.prim .neg (.cons (.con (.int 1)) .nil)) .nil)))) (.cons (.for_ (.nm 5) (.rng (.cons (.prim .len (.cons (.var 1) .nil)) (.cons (.prim .neg (.cons (.con (.int 1)) .nil)) (.cons (.prim .neg (.cons (.con (.int 1)) .nil)) .nil)))) (.cons (.for_ (.nm 6) (.val (.tup (.cons (.con (.bool false)) (.cons (.con (.bool true)) .nil)))) (.cons (.setIx 3 (.tup (.cons (.var 4) (.cons (.var 5) (.cons (.var 6) .nil)))) (.call 8 (.cons (.own 3) (.cons (.prim (.sl true true) (.cons (.var 0) (.cons (.var 4) (.cons (.prim (.bin .Add) (.cons (.var 4) (.cons (.con (.int 1)) .nil))) .nil)))) (.cons (.prim (.sl true true) (.cons (.var 1) (.cons (.var 5) (.cons (.prim (.bin .Add) (.cons (.var 5) (.cons (.con (.int 1)) .nil))) .nil)))) (.cons (.tup (.cons (.var 4) (.cons (.var 5) (.cons (.var 6) .nil)))) (.cons (.var 2) .nil))))))) .nil)) .nil)) .nil)) (.cons (.ret (.prim .ix (.cons (.own 3) (.cons (.tup (.cons (.con (.int 0)) (.cons (.con (.int 0)) (.cons (.con (.bool false)) .nil)))) .nil)))) .nil))) }
/-- least from: 0 best, 1 first, 2 second, 3 place, 4 line, 5 rows, 6 i, 7 j, 8 ahead, 9 ink, 10 rest -/
def fi8 : Fi := { io := [false, false, false, false, false], slots := 11, body := (.cons (.asg (.tp (.cons (.nm 6) (.cons (.nm 7) (.cons (.nm 8) .nil)))) false (.var 3)) (.cons (.iff (.and (.prim (.cmp .Eq) (.cons (.var 1) (.cons (.tup .nil) .nil))) (.prim (.cmp .Eq) (.cons (.var 2) (.cons (.tup .nil) .nil)))) (.cons (.ret (.tup (.cons (.con (.int 0)) (.cons (.tup .nil) .nil)))) .nil) .nil) (.cons (.asg (.nm 5) true (.lst .nil)) (.cons (.iff (.and (.prim (.cmp .NotEq) (.cons (.var 1) (.cons (.tup .nil) .nil))) (.prim (.cmp .Eq) (.cons (.var 1) (.cons (.var 2) .nil)))) (.cons (.asg (.tp (.cons (.nm 9) (.cons (.nm 10) .nil))) false (.prim .ix (.cons (.var 0) (.cons (.tup (.cons (.prim (.bin .Add) (.cons (.var 6) (.cons (.con (.int 1)) .nil))) (.cons (.prim (.bin .Add) (.cons (.var 7) (.cons (.con (.int 1)) .nil))) (.cons (.con (.bool false)) .nil)))) .nil)))) (.cons (.exp (.mut .append 5 (.cons (.tup (.cons (.var 9) (.cons (.prim (.bin .Add) (.cons (.tup (.cons (.tup (.cons (.con (.str ⟨#[107, 101, 101, 112]⟩)) (.cons (.prim .ix (.cons (.var 1) (.cons (.con (.int 0)) .nil))) .nil))) .nil)) (.cons (.var 10) .nil))) .nil))) .nil))) .nil)) .nil) (.cons (.iff (.prim (.cmp .NotEq) (.cons (.var 1) (.cons (.tup .nil) .nil))) (.cons (.asg (.tp (.cons (.nm 9) (.cons (.nm 10) .nil))) false (.prim .ix (.cons (.var 0) (.cons (.tup (.cons (.prim (.bin .Add) (.cons (.var 6) (.cons (.con (.int 1)) .nil))) (.cons (.var 7) (.cons (.con (.bool true)) .nil)))) .nil)))) (.cons (.exp (.mut .append 5 (.cons (.tup (.cons (.prim (.bin .Add) (.cons (.var 9) (.cons (.ife (.var 8) (.con (.int 0)) (.var 4)) .nil))) (.cons (.prim (.bin .Add) (.cons (.tup (.cons (.tup (.cons (.con (.str ⟨#[115, 116, 114, 105, 107, 101]⟩)) (.cons (.prim .ix (.cons (.var 1) (.cons (.con (.int 0)) .nil))) .nil))) .nil)) (.cons (.var 10) .nil))) .nil))) .nil))) .nil)) .nil) (.cons (.iff (.prim (.cmp .NotEq) (.cons (.var 2) (.cons (.tup .nil) .nil))) (.cons (.asg (.tp (.cons (.nm 9) (.cons (.nm 10) .nil))) false (.prim .ix (.cons (.var 0) (.cons (.tup (.cons (.var 6) (.cons (.prim (.bin .Add) (.cons (.var 7) (.cons (.con (.int 1)) .nil))) (.cons (.con (.bool false)) .nil)))) .nil)))) (.cons (.exp (.mut .append 5 (.cons (.tup (.cons (.prim (.bin .Add) (.cons (.prim (.bin .Add) (.cons (.var 9) (.cons (.prim .len (.cons (.prim .ix (.cons (.var 2) (.cons (.con (.int 0)) .nil))) .nil)) .nil))) (.cons (.con (.int 1)) .nil))) (.cons (.prim (.bin .Add) (.cons (.tup (.cons (.tup (.cons (.con (.str ⟨#[112, 117, 116]⟩)) (.cons (.prim .ix (.cons (.var 2) (.cons (.con (.int 0)) .nil))) .nil))) .nil)) (.cons (.var 10) .nil))) .nil))) .nil))) .nil)) .nil) (.cons (.ret (.prim .min1 (.cons (.own 5) .nil))) .nil))))))) }
/-- count mendings: 0 old, 1 new, 2 table, 3 i, 4 j, 5 many -/
def fi9 : Fi := { io := [false, false], slots := 6, body := (.cons (.asg (.nm 2) true (.dic .nil)) (.cons (.for_ (.nm 3) (.rng (.cons (.prim .len (.cons (.var 0) .nil)) (.cons (.prim .neg (.cons (.con (.int 1)) .nil)) (.cons (.prim .neg (.cons (.con (.int 1)) .nil)) .nil)))) (.cons (.for_ (.nm 4) (.rng (.cons (.prim .len (.cons (.var 1) .nil)) (.cons (.prim .neg (.cons (.con (.int 1)) .nil)) (.cons (.prim .neg (.cons (.con (.int 1)) .nil)) .nil)))) (.cons (.asg (.nm 5) false (.prim .int (.cons (.and (.prim (.cmp .Eq) (.cons (.var 3) (.cons (.prim .len (.cons (.var 0) .nil)) .nil))) (.prim (.cmp .Eq) (.cons (.var 4) (.cons (.prim .len (.cons (.var 1) .nil)) .nil)))) .nil))) (.cons (.iff (.prim (.cmp .Lt) (.cons (.var 3) (.cons (.prim .len (.cons (.var 0) .nil)) .nil))) (.cons (.aug 5 .Add (.prim .ix (.cons (.own 2) (.cons (.tup (.cons (.prim (.bin .Add) (.cons (.var 3) (.cons (.con (.int 1)) .nil))) (.cons (.var 4) .nil))) .nil)))) .nil) .nil) (.cons (.iff (.prim (.cmp .Lt) (.cons (.var 4) (.cons (.prim .len (.cons (.var 1) .nil)) .nil))) (.cons (.aug 5 .Add (.prim .ix (.cons (.own 2) (.cons (.tup (.cons (.var 3) (.cons (.prim (.bin .Add) (.cons (.var 4) (.cons (.con (.int 1)) .nil))) .nil))) .nil)))) .nil) .nil) (.cons (.iff (.and (.prim (.cmp .Lt) (.cons (.var 3) (.cons (.prim .len (.cons (.var 0) .nil)) .nil))) (.and (.prim (.cmp .Lt) (.cons (.var 4) (.cons (.prim .len (.cons (.var 1) .nil)) .nil))) (.prim (.cmp .Eq) (.cons (.prim .ix (.cons (.var 0) (.cons (.var 3) .nil))) (.cons (.prim .ix (.cons (.var 1) (.cons (.var 4) .nil))) .nil))))) (.cons (.aug 5 .Add (.prim .ix (.cons (.own 2) (.cons (.tup (.cons (.prim (.bin .Add) (.cons (.var 3) (.cons (.con (.int 1)) .nil))) (.cons (.prim (.bin .Add) (.cons (.var 4) (.cons (.con (.int 1)) .nil))) .nil))) .nil)))) .nil) .nil) (.cons (.setIx 2 (.tup (.cons (.var 3) (.cons (.var 4) .nil))) (.var 5)) .nil)))))) .nil)) (.cons (.ret (.prim .ix (.cons (.own 2) (.cons (.tup (.cons (.con (.int 0)) (.cons (.con (.int 0)) .nil))) .nil)))) .nil))) }
/-- kept most: 0 old, 1 new, 2 table, 3 i, 4 j, 5 rows -/
def fi10 : Fi := { io := [false, false], slots := 6, body := (.cons (.asg (.nm 2) true (.dic .nil)) (.cons (.for_ (.nm 3) (.rng (.cons (.prim .len (.cons (.var 0) .nil)) (.cons (.prim .neg (.cons (.con (.int 1)) .nil)) (.cons (.prim .neg (.cons (.con (.int 1)) .nil)) .nil)))) (.cons (.for_ (.nm 4) (.rng (.cons (.prim .len (.cons (.var 1) .nil)) (.cons (.prim .neg (.cons (.con (.int 1)) .nil)) (.cons (.prim .neg (.cons (.con (.int 1)) .nil)) .nil)))) (.cons (.asg (.nm 5) true (.lst (.cons (.con (.int 0)) .nil))) (.cons (.iff (.prim (.cmp .Lt) (.cons (.var 3) (.cons (.prim .len (.cons (.var 0) .nil)) .nil))) (.cons (.exp (.mut .append 5 (.cons (.prim .ix (.cons (.own 2) (.cons (.tup (.cons (.prim (.bin .Add) (.cons (.var 3) (.cons (.con (.int 1)) .nil))) (.cons (.var 4) .nil))) .nil))) .nil))) .nil) .nil) (.cons (.iff (.prim (.cmp .Lt) (.cons (.var 4) (.cons (.prim .len (.cons (.var 1) .nil)) .nil))) (.cons (.exp (.mut .append 5 (.cons (.prim .ix (.cons (.own 2) (.cons (.tup (.cons (.var 3) (.cons (.prim (.bin .Add) (.cons (.var 4) (.cons (.con (.int 1)) .nil))) .nil))) .nil))) .nil))) .nil) .nil) (.cons (.iff (.and (.prim (.cmp .Lt) (.cons (.var 3) (.cons (.prim .len (.cons (.var 0) .nil)) .nil))) (.and (.prim (.cmp .Lt) (.cons (.var 4) (.cons (.prim .len (.cons (.var 1) .nil)) .nil))) (.prim (.cmp .Eq) (.cons (.prim .ix (.cons (.var 0) (.cons (.var 3) .nil))) (.cons (.prim .ix (.cons (.var 1) (.cons (.var 4) .nil))) .nil))))) (.cons (.exp (.mut .append 5 (.cons (.prim (.bin .Add) (.cons (.prim .ix (.cons (.own 2) (.cons (.tup (.cons (.prim (.bin .Add) (.cons (.var 3) (.cons (.con (.int 1)) .nil))) (.cons (.prim (.bin .Add) (.cons (.var 4) (.cons (.con (.int 1)) .nil))) .nil))) .nil))) (.cons (.con (.int 1)) .nil))) .nil))) .nil) .nil) (.cons (.setIx 2 (.tup (.cons (.var 3) (.cons (.var 4) .nil))) (.prim .max1 (.cons (.own 5) .nil))) .nil)))))) .nil)) (.cons (.ret (.prim .ix (.cons (.own 2) (.cons (.tup (.cons (.con (.int 0)) (.cons (.con (.int 0)) .nil))) .nil)))) .nil))) }
/-- let stand: 0 mended, 1 place, 2 own, 3 kind, 4 word -/
def fi11 : Fi := { io := [false, false], slots := 5, body := (.cons (.asg (.tp (.cons (.nm 3) (.cons (.nm 4) .nil))) false (.prim .ix (.cons (.var 0) (.cons (.var 1) .nil)))) (.cons (.asg (.nm 2) false (.ife (.prim (.cmp .Eq) (.cons (.var 3) (.cons (.con (.str ⟨#[112, 117, 116]⟩)) .nil))) (.tup .nil) (.tup (.cons (.tup (.cons (.con (.str ⟨#[107, 101, 101, 112]⟩)) (.cons (.var 4) .nil))) .nil)))) (.cons (.ret (.prim (.bin .Add) (.cons (.prim (.bin .Add) (.cons (.prim (.sl false true) (.cons (.var 0) (.cons (.var 1) .nil))) (.cons (.var 2) .nil))) (.cons (.prim (.sl true false) (.cons (.var 0) (.cons (.prim (.bin .Add) (.cons (.var 1) (.cons (.con (.int 1)) .nil))) .nil))) .nil)))) .nil))) }
/-- needless: 0 mended, 1 found, 2 k, 3 kinds -/
def fi12 : Fi := { io := [false], slots := 4, body := (.cons (.asg (.nm 1) true (.lst .nil)) (.cons (.for_ (.nm 2) (.rng (.cons (.prim (.bin .Sub) (.cons (.prim .len (.cons (.var 0) .nil)) (.cons (.con (.int 1)) .nil))) .nil)) (.cons (.asg (.nm 3) false (.tup (.cons (.prim .ix (.cons (.prim .ix (.cons (.var 0) (.cons (.var 2) .nil))) (.cons (.con (.int 0)) .nil))) (.cons (.prim .ix (.cons (.prim .ix (.cons (.var 0) (.cons (.prim (.bin .Add) (.cons (.var 2) (.cons (.con (.int 1)) .nil))) .nil))) (.cons (.con (.int 0)) .nil))) .nil)))) (.cons (.iff (.and (.prim (.cmp .In) (.cons (.var 3) (.cons (.tup (.cons (.tup (.cons (.con (.str ⟨#[115, 116, 114, 105, 107, 101]⟩)) (.cons (.con (.str ⟨#[112, 117, 116]⟩)) .nil))) (.cons (.tup (.cons (.con (.str ⟨#[112, 117, 116]⟩)) (.cons (.con (.str ⟨#[115, 116, 114, 105, 107, 101]⟩)) .nil))) .nil))) .nil))) (.prim (.cmp .Eq) (.cons (.prim .ix (.cons (.prim .ix (.cons (.var 0) (.cons (.var 2) .nil))) (.cons (.con (.int 1)) .nil))) (.cons (.prim .ix (.cons (.prim .ix (.cons (.var 0) (.cons (.prim (.bin .Add) (.cons (.var 2) (.cons (.con (.int 1)) .nil))) .nil))) (.cons (.con (.int 1)) .nil))) .nil)))) (.cons (.exp (.mut .append 1 (.cons (.ife (.prim (.cmp .Eq) (.cons (.prim .ix (.cons (.var 3) (.cons (.con (.int 0)) .nil))) (.cons (.con (.str ⟨#[115, 116, 114, 105, 107, 101]⟩)) .nil))) (.var 2) (.prim (.bin .Add) (.cons (.var 2) (.cons (.con (.int 1)) .nil)))) .nil))) .nil) .nil) .nil))) (.cons (.ret (.prim .tuple (.cons (.prim .sortedSet (.cons (.own 1) .nil)) .nil))) .nil))) }
/-- print mended: 0 mended, 1 signs, 2 kind, 3 word -/
def fi13 : Fi := { io := [false], slots := 4, body := (.cons (.asg (.nm 1) false (.dic (.cons (.con (.str ⟨#[107, 101, 101, 112]⟩)) (.cons (.tup (.cons (.con (.str ⟨#[]⟩)) (.cons (.con (.str ⟨#[]⟩)) .nil))) (.cons (.con (.str ⟨#[115, 116, 114, 105, 107, 101]⟩)) (.cons (.tup (.cons (.con (.str ⟨#[91]⟩)) (.cons (.con (.str ⟨#[93]⟩)) .nil))) (.cons (.con (.str ⟨#[112, 117, 116]⟩)) (.cons (.tup (.cons (.con (.str ⟨#[123]⟩)) (.cons (.con (.str ⟨#[125]⟩)) .nil))) .nil)))))))) (.cons (.ret (.prim .join (.cons (.con (.str ⟨#[32]⟩)) (.cons (.comp [2, 3] (.tp (.cons (.nm 2) (.cons (.nm 3) .nil))) (.val (.var 0)) .nil (.prim (.bin .Add) (.cons (.prim (.bin .Add) (.cons (.prim .ix (.cons (.prim .ix (.cons (.var 1) (.cons (.var 2) .nil))) (.cons (.con (.int 0)) .nil))) (.cons (.var 3) .nil))) (.cons (.prim .ix (.cons (.prim .ix (.cons (.var 1) (.cons (.var 2) .nil))) (.cons (.con (.int 1)) .nil))) .nil)))) .nil)))) .nil)) }
/-- law draws: 0 script, 1 many, 2 draws, 3 mixed, 4 k, 5 cell, 6 rest, 7 turn -/
def fi14 : Fi := { io := [false, false], slots := 8, body := (.cons (.asg (.nm 2) true (.lst .nil)) (.cons (.asg (.nm 3) false (.con (.int 7))) (.cons (.for_ (.nm 4) (.rng (.cons (.prim .len (.cons (.var 0) .nil)) .nil)) (.cons (.asg (.nm 5) false (.prim .abs (.cons (.prim .int (.cons (.prim .ix (.cons (.var 0) (.cons (.var 4) .nil))) .nil)) .nil))) (.cons (.asg (.nm 3) false (.prim (.bin .Mod) (.cons (.prim .int (.cons (.prim (.bin .Add) (.cons (.prim (.bin .Add) (.cons (.prim (.bin .Mult) (.cons (.var 3) (.cons (.con (.int 48271)) .nil))) (.cons (.prim (.bin .Mod) (.cons (.var 5) (.cons (.con (.int 1000003)) .nil))) .nil))) (.cons (.var 4) .nil))) .nil)) (.cons (.con (.int 65537)) .nil)))) (.cons (.asg (.nm 6) false (.con (.int 0))) (.cons (.iff (.prim (.cmp .GtE) (.cons (.var 5) (.cons (.prim (.bin .Pow) (.cons (.con (.int 10)) (.cons (.con (.int 18)) .nil))) .nil))) (.cons (.asg (.nm 6) false (.var 5)) .nil) (.cons (.exp (.mut .append 2 (.cons (.prim (.bin .Mod) (.cons (.prim .int (.cons (.var 5) .nil)) (.cons (.con (.int 997)) .nil))) .nil))) (.cons (.exp (.mut .append 2 (.cons (.prim (.bin .Mod) (.cons (.prim (.bin .Mod) (.cons (.prim .int (.cons (.prim (.bin .Add) (.cons (.prim (.bin .Mult) (.cons (.var 3) (.cons (.con (.int 69621)) .nil))) (.cons (.con (.int 5)) .nil))) .nil)) (.cons (.con (.int 65521)) .nil))) (.cons (.con (.int 997)) .nil))) .nil))) .nil))) (.cons (.for_ (.nm 7) (.rng (.cons (.con (.int 60)) .nil)) (.cons (.iff (.prim (.cmp .Gt) (.cons (.var 6) (.cons (.con (.int 0)) .nil))) (.cons (.exp (.mut .append 2 (.cons (.prim (.bin .Mod) (.cons (.prim .int (.cons (.var 6) .nil)) (.cons (.con (.int 997)) .nil))) .nil))) (.cons (.asg (.nm 6) false (.prim (.bin .FloorDiv) (.cons (.var 6) (.cons (.con (.int 997)) .nil)))) .nil)) .nil) .nil)) .nil)))))) (.cons (.for_ (.nm 4) (.rng (.cons (.var 1) .nil)) (.cons (.asg (.nm 3) false (.prim (.bin .Mod) (.cons (.prim .int (.cons (.prim (.bin .Add) (.cons (.prim (.bin .Add) (.cons (.prim (.bin .Mult) (.cons (.var 3) (.cons (.con (.int 16807)) .nil))) (.cons (.var 4) .nil))) (.cons (.con (.int 1)) .nil))) .nil)) (.cons (.con (.int 65537)) .nil)))) (.cons (.exp (.mut .append 2 (.cons (.prim (.bin .Mod) (.cons (.prim .int (.cons (.var 3) .nil)) (.cons (.con (.int 997)) .nil))) .nil))) .nil))) (.cons (.ret (.prim (.sl false true) (.cons (.own 2) (.cons (.var 1) .nil)))) .nil))))) }
/-- law next: 0 w, 1 many -/
def fi15 : Fi := { io := [true, false], slots := 2, body := (.cons (.augIx 0 (.con (.str ⟨#[97, 116]⟩)) .Add (.con (.int 1))) (.cons (.iff (.prim (.cmp .Gt) (.cons (.prim .ix (.cons (.own 0) (.cons (.con (.str ⟨#[97, 116]⟩)) .nil))) (.cons (.prim .len (.cons (.prim .ix (.cons (.own 0) (.cons (.con (.str ⟨#[100, 114, 97, 119, 115]⟩)) .nil))) .nil)) .nil))) (.cons (.ret (.con (.int 0))) .nil) .nil) (.cons (.ret (.prim (.bin .Mod) (.cons (.prim .int (.cons (.prim .ix (.cons (.prim .ix (.cons (.own 0) (.cons (.con (.str ⟨#[100, 114, 97, 119, 115]⟩)) .nil))) (.cons (.prim (.bin .Sub) (.cons (.prim .ix (.cons (.own 0) (.cons (.con (.str ⟨#[97, 116]⟩)) .nil))) (.cons (.con (.int 1)) .nil))) .nil))) .nil)) (.cons (.var 1) .nil)))) .nil))) }
/-- law same: 0 seen, 1 due, 2 waiting, 3 one, 4 other, 5 keys, 6 key, 7 k -/
def fi16 : Fi := { io := [false, false], slots := 8, body := (.cons (.asg (.nm 2) true (.lst (.cons (.tup (.cons (.var 0) (.cons (.var 1) .nil))) .nil))) (.cons (.while_ (.prim (.cmp .NotEq) (.cons (.own 2) (.cons (.lst .nil) .nil))) (.cons (.asg (.tp (.cons (.nm 3) (.cons (.nm 4) .nil))) false (.mut .pop 2 .nil)) (.cons (.iff (.prim (.isi "dict") (.cons (.var 4) .nil)) (.cons .fail (.cons .fail (.cons .fail .nil))) (.cons (.iff (.or (.prim (.isi "tuple") (.cons (.var 4) .nil)) (.prim (.isi "list") (.cons (.var 4) .nil))) (.cons (.iff (.or (.prim (.cmp .NotEq) (.cons (.prim (.isi "tuple") (.cons (.var 3) .nil)) (.cons (.prim (.isi "tuple") (.cons (.var 4) .nil)) .nil))) (.or (.prim (.cmp .NotEq) (.cons (.prim (.isi "list") (.cons (.var 3) .nil)) (.cons (.prim (.isi "list") (.cons (.var 4) .nil)) .nil))) (.prim (.cmp .NotEq) (.cons (.prim .len (.cons (.var 3) .nil)) (.cons (.prim .len (.cons (.var 4) .nil)) .nil))))) (.cons (.ret (.con (.bool false))) .nil) .nil) (.cons (.exp (.mut .extend 2 (.cons (.comp [7] (.nm 7) (.rng (.cons (.prim .len (.cons (.var 4) .nil)) .nil)) .nil (.tup (.cons (.prim .ix (.cons (.var 3) (.cons (.var 7) .nil))) (.cons (.prim .ix (.cons (.var 4) (.cons (.var 7) .nil))) .nil)))) .nil))) .nil)) (.cons (.iff (.or (.prim (.cmp .NotEq) (.cons (.prim (.isi "bool") (.cons (.var 3) .nil)) (.cons (.prim (.isi "bool") (.cons (.var 4) .nil)) .nil))) (.or (.prim (.cmp .NotEq) (.cons (.prim (.isi "int") (.cons (.var 3) .nil)) (.cons (.prim (.isi "int") (.cons (.var 4) .nil)) .nil))) (.or (.prim (.cmp .NotEq) (.cons (.prim (.isi "str") (.cons (.var 3) .nil)) (.cons (.prim (.isi "str") (.cons (.var 4) .nil)) .nil))) (.prim (.cmp .NotEq) (.cons (.var 3) (.cons (.var 4) .nil)))))) (.cons (.ret (.con (.bool false))) .nil) .nil) .nil)) .nil)) .nil))) (.cons (.ret (.con (.bool true))) .nil))) }
/-- law pick: 0 w, 1 rows -/
def fi17 : Fi := { io := [true, false], slots := 2, body := (.cons (.ret (.prim .ix (.cons (.var 1) (.cons (.call 15 (.cons (.io 0) (.cons (.prim .len (.cons (.var 1) .nil)) .nil))) .nil)))) .nil) }
/-- law text: 0 w, 1 most, 2 k -/
def fi18 : Fi := { io := [true, false], slots := 3, body := (.cons (.ret (.prim .tuple (.cons (.comp [2] (.nm 2) (.rng (.cons (.call 15 (.cons (.io 0) (.cons (.prim (.bin .Add) (.cons (.var 1) (.cons (.con (.int 1)) .nil))) .nil))) .nil)) .nil (.call 17 (.cons (.io 0) (.cons (.lst (.cons (.con (.str ⟨#[97]⟩)) (.cons (.con (.str ⟨#[98]⟩)) (.cons (.con (.str ⟨#[97, 98]⟩)) (.cons (.con (.str ⟨#[99, 100, 101]⟩)) .nil))))) .nil)))) .nil))) .nil) }
/-- law ink: 0 mended, 1 line, 2 total, 3 kind, 4 word, 5 k -/
def fi19 : Fi := { io := [false, false], slots := 6, body := (.cons (.asg (.nm 2) false (.prim .sum (.cons (.comp [3, 4] (.tp (.cons (.nm 3) (.cons (.nm 4) .nil))) (.val (.var 0)) (.cons (.prim (.cmp .Eq) (.cons (.var 3) (.cons (.con (.str ⟨#[112, 117, 116]⟩)) .nil))) .nil) (.prim (.bin .Add) (.cons (.prim .len (.cons (.var 4) .nil)) (.cons (.con (.int 1)) .nil)))) .nil))) (.cons (.ret (.prim (.bin .Add) (.cons (.var 2) (.cons (.prim (.bin .Mult) (.cons (.var 1) (.cons (.prim .len (.cons (.comp [5] (.nm 5) (.rng (.cons (.prim .len (.cons (.var 0) .nil)) .nil)) (.cons (.and (.prim (.cmp .Eq) (.cons (.prim .ix (.cons (.prim .ix (.cons (.var 0) (.cons (.var 5) .nil))) (.cons (.con (.int 0)) .nil))) (.cons (.con (.str ⟨#[115, 116, 114, 105, 107, 101]⟩)) .nil))) (.or (.prim (.cmp .Eq) (.cons (.var 5) (.cons (.con (.int 0)) .nil))) (.prim (.cmp .NotEq) (.cons (.prim .ix (.cons (.prim .ix (.cons (.var 0) (.cons (.prim (.bin .Sub) (.cons (.var 5) (.cons (.con (.int 1)) .nil))) .nil))) (.cons (.con (.int 0)) .nil))) (.cons (.con (.str ⟨#[115, 116, 114, 105, 107, 101]⟩)) .nil))))) .nil) (.var 5)) .nil)) .nil))) .nil)))) .nil)) }
/-- law all: 0 old, 1 new, 2 rows, 3 found, 4 longer, 5 row, 6 i, 7 j -/
def fi20 : Fi := { io := [false, false], slots := 8, body := (.cons (.par [(2, false), (3, true)] (.cons (.lst (.cons (.tup (.cons (.tup .nil) (.cons (.con (.int 0)) (.cons (.con (.int 0)) .nil)))) .nil)) (.cons (.lst .nil) .nil))) (.cons (.while_ (.prim (.cmp .NotEq) (.cons (.var 2) (.cons (.lst .nil) .nil))) (.cons (.asg (.nm 4) true (.lst .nil)) (.cons (.for_ (.tp (.cons (.nm 5) (.cons (.nm 6) (.cons (.nm 7) .nil)))) (.val (.var 2)) (.cons (.iff (.and (.prim (.cmp .Eq) (.cons (.var 6) (.cons (.prim .len (.cons (.var 0) .nil)) .nil))) (.prim (.cmp .Eq) (.cons (.var 7) (.cons (.prim .len (.cons (.var 1) .nil)) .nil)))) (.cons (.exp (.mut .append 3 (.cons (.var 5) .nil))) .nil) .nil) (.cons (.iff (.prim (.cmp .Lt) (.cons (.var 6) (.cons (.prim .len (.cons (.var 0) .nil)) .nil))) (.cons (.exp (.mut .append 4 (.cons (.tup (.cons (.prim (.bin .Add) (.cons (.var 5) (.cons (.tup (.cons (.tup (.cons (.con (.str ⟨#[115, 116, 114, 105, 107, 101]⟩)) (.cons (.prim .ix (.cons (.var 0) (.cons (.var 6) .nil))) .nil))) .nil)) .nil))) (.cons (.prim (.bin .Add) (.cons (.var 6) (.cons (.con (.int 1)) .nil))) (.cons (.var 7) .nil)))) .nil))) .nil) .nil) (.cons (.iff (.prim (.cmp .Lt) (.cons (.var 7) (.cons (.prim .len (.cons (.var 1) .nil)) .nil))) (.cons (.exp (.mut .append 4 (.cons (.tup (.cons (.prim (.bin .Add) (.cons (.var 5) (.cons (.tup (.cons (.tup (.cons (.con (.str ⟨#[112, 117, 116]⟩)) (.cons (.prim .ix (.cons (.var 1) (.cons (.var 7) .nil))) .nil))) .nil)) .nil))) (.cons (.var 6) (.cons (.prim (.bin .Add) (.cons (.var 7) (.cons (.con (.int 1)) .nil))) .nil)))) .nil))) .nil) .nil) (.cons (.iff (.and (.prim (.cmp .Lt) (.cons (.var 6) (.cons (.prim .len (.cons (.var 0) .nil)) .nil))) (.and (.prim (.cmp .Lt) (.cons (.var 7) (.cons (.prim .len (.cons (.var 1) .nil)) .nil))) (.prim (.cmp .Eq) (.cons (.prim .ix (.cons (.var 0) (.cons (.var 6) .nil))) (.cons (.prim .ix (.cons (.var 1) (.cons (.var 7) .nil))) .nil))))) (.cons (.exp (.mut .append 4 (.cons (.tup (.cons (.prim (.bin .Add) (.cons (.var 5) (.cons (.tup (.cons (.tup (.cons (.con (.str ⟨#[107, 101, 101, 112]⟩)) (.cons (.prim .ix (.cons (.var 0) (.cons (.var 6) .nil))) .nil))) .nil)) .nil))) (.cons (.prim (.bin .Add) (.cons (.var 6) (.cons (.con (.int 1)) .nil))) (.cons (.prim (.bin .Add) (.cons (.var 7) (.cons (.con (.int 1)) .nil))) .nil)))) .nil))) .nil) .nil) .nil))))) (.cons (.asg (.nm 2) false (.esc 4)) .nil)))) (.cons (.ret (.esc 3)) .nil))) }
/-- law least: 0 old, 1 new, 2 line, 3 row -/
def fi21 : Fi := { io := [false, false, false], slots := 4, body := (.cons (.ret (.prim .min1 (.cons (.comp [3] (.nm 3) (.val (.call 20 (.cons (.var 0) (.cons (.var 1) .nil)))) .nil (.tup (.cons (.call 19 (.cons (.var 3) (.cons (.var 2) .nil))) (.cons (.var 3) .nil)))) .nil))) .nil) }
/-- law bent: 0 w, 1 mended, 2 rows, 3 odd -/
def fi22 : Fi := { io := [true, false], slots := 4, body := (.cons (.asg (.nm 2) true (.lst (.cons (.tup (.cons (.var 1) (.cons (.con (.bool true)) .nil))) (.cons (.tup (.cons (.var 1) (.cons (.con (.bool true)) .nil))) (.cons (.tup (.cons (.tup .nil) (.cons (.con (.bool true)) .nil))) (.cons (.tup (.cons (.prim .list (.cons (.var 1) .nil)) (.cons (.con (.bool false)) .nil))) (.cons (.tup (.cons (.con .none) (.cons (.con (.bool false)) .nil))) (.cons (.tup (.cons (.tup (.cons (.con (.str ⟨#[107, 101, 101, 112]⟩)) (.cons (.con (.str ⟨#[97]⟩)) .nil))) (.cons (.con (.bool false)) .nil))) .nil)))))))) (.cons (.for_ (.nm 3) (.val (.lst (.cons (.tup (.cons (.con (.str ⟨#[75, 101, 101, 112]⟩)) (.cons (.con (.str ⟨#[97]⟩)) .nil))) (.cons (.tup (.cons (.con (.str ⟨#[107, 101, 101, 112]⟩)) (.cons (.con (.str ⟨#[]⟩)) .nil))) (.cons (.tup (.cons (.con (.str ⟨#[107, 101, 101, 112]⟩)) (.cons (.con (.str ⟨#[97, 32, 98]⟩)) .nil))) (.cons (.tup (.cons (.con (.str ⟨#[112, 117, 116]⟩)) (.cons (.con (.str ⟨#[97, 10]⟩)) .nil))) (.cons (.tup (.cons (.con (.str ⟨#[107, 101, 101, 112]⟩)) .nil)) (.cons (.tup (.cons (.con (.str ⟨#[107, 101, 101, 112]⟩)) (.cons (.con (.str ⟨#[97]⟩)) (.cons (.con (.str ⟨#[98]⟩)) .nil)))) (.cons (.lst (.cons (.con (.str ⟨#[107, 101, 101, 112]⟩)) (.cons (.con (.str ⟨#[97]⟩)) .nil))) (.cons (.tup (.cons (.con (.str ⟨#[112, 117, 116]⟩)) (.cons (.con (.int 5)) .nil))) (.cons (.tup (.cons (.con .none) (.cons (.con (.str ⟨#[97]⟩)) .nil))) (.cons (.con (.str ⟨#[107, 101, 101, 112]⟩)) (.cons (.tup (.cons (.con (.bool true)) (.cons (.con (.str ⟨#[97]⟩)) .nil))) (.cons (.tup (.cons (.con (.str ⟨#[115, 116, 114, 105, 107, 101]⟩)) (.cons (.con .none) .nil))) .nil)))))))))))))) (.cons (.exp (.mut .append 2 (.cons (.tup (.cons (.prim (.bin .Add) (.cons (.var 1) (.cons (.tup (.cons (.var 3) .nil)) .nil))) (.cons (.con (.bool false)) .nil))) .nil))) .nil)) (.cons (.ret (.call 17 (.cons (.io 0) (.cons (.prim (.bin .Add) (.cons (.own 2) (.cons (.lst (.cons (.tup (.cons (.prim (.bin .Add) (.cons (.var 1) (.cons (.tup (.cons (.tup (.cons (.con (.str ⟨#[115, 116, 114, 105, 107, 101]⟩)) (.cons (.con (.str ⟨#[91, 120, 93]⟩)) .nil))) .nil)) .nil))) (.cons (.con (.bool true)) .nil))) (.cons (.tup (.cons (.prim (.bin .Add) (.cons (.var 1) (.cons (.tup (.cons (.tup (.cons (.con (.str ⟨#[112, 117, 116]⟩)) (.cons (.con (.str ⟨#[65, 49]⟩)) .nil))) .nil)) .nil))) (.cons (.con (.bool true)) .nil))) .nil))) .nil))) .nil)))) .nil))) }
/-- law words bent: 0 w, 1 text, 2 rows, 3 odd -/
def fi23 : Fi := { io := [true, false], slots := 4, body := (.cons (.asg (.nm 2) false (.lst (.cons (.tup (.cons (.var 1) (.cons (.con (.bool true)) .nil))) (.cons (.tup (.cons (.tup .nil) (.cons (.con (.bool true)) .nil))) (.cons (.tup (.cons (.prim .list (.cons (.var 1) .nil)) (.cons (.con (.bool false)) .nil))) (.cons (.tup (.cons (.con .none) (.cons (.con (.bool false)) .nil))) (.cons (.tup (.cons (.con (.str ⟨#[97]⟩)) (.cons (.con (.bool false)) .nil))) (.cons (.tup (.cons (.prim (.bin .Add) (.cons (.var 1) (.cons (.tup (.cons (.con (.str ⟨#[120, 45, 121]⟩)) .nil)) .nil))) (.cons (.con (.bool true)) .nil))) .nil)))))))) (.cons (.ret (.call 17 (.cons (.io 0) (.cons (.prim (.bin .Add) (.cons (.var 2) (.cons (.comp [3] (.nm 3) (.val (.lst (.cons (.con (.str ⟨#[]⟩)) (.cons (.con (.str ⟨#[32]⟩)) (.cons (.con (.str ⟨#[97, 32, 98]⟩)) (.cons (.con (.str ⟨#[97, 10, 98]⟩)) (.cons (.con (.int 1)) (.cons (.con .none) (.cons (.tup (.cons (.con (.str ⟨#[97]⟩)) .nil)) (.cons (.con (.bool true)) .nil)))))))))) .nil (.tup (.cons (.prim (.bin .Add) (.cons (.var 1) (.cons (.tup (.cons (.var 3) .nil)) .nil))) (.cons (.con (.bool false)) .nil)))) .nil))) .nil)))) .nil)) }
/-- law: 0 script, 1 w, 2 turn, 3 mended, 4 line, 5 text, 6 vain, 7 new, 8 every, 9 most, 10 due, 11 k, 12 ahead, 13 behind, 14 place, 15 old, 16 kind, 17 word, 18 value, 19 right, 20 words, 21 told_so, 22 row -/
def fi24 : Fi := { io := [false], slots := 23, body := (.cons (.asg (.nm 1) true (.dic (.cons (.con (.str ⟨#[100, 114, 97, 119, 115]⟩)) (.cons (.call 14 (.cons (.var 0) (.cons (.con (.int 400)) .nil))) (.cons (.con (.str ⟨#[97, 116]⟩)) (.cons (.con (.int 0)) .nil)))))) (.cons (.for_ (.nm 2) (.rng (.cons (.con (.int 4)) .nil)) (.cons (.asg (.nm 3) false (.prim .tuple (.cons (.comp [11] (.nm 11) (.rng (.cons (.call 15 (.cons (.io 1) (.cons (.con (.int 7)) .nil))) .nil)) .nil (.tup (.cons (.call 17 (.cons (.io 1) (.cons (.lst (.cons (.con (.str ⟨#[107, 101, 101, 112]⟩)) (.cons (.con (.str ⟨#[115, 116, 114, 105, 107, 101]⟩)) (.cons (.con (.str ⟨#[112, 117, 116]⟩)) .nil)))) .nil))) (.cons (.call 17 (.cons (.io 1) (.cons (.lst (.cons (.con (.str ⟨#[97]⟩)) (.cons (.con (.str ⟨#[98]⟩)) (.cons (.con (.str ⟨#[97, 98]⟩)) (.cons (.con (.str ⟨#[97]⟩)) .nil))))) .nil))) .nil)))) .nil))) (.cons (.asg (.nm 4) false (.call 15 (.cons (.io 1) (.cons (.con (.int 5)) .nil)))) (.cons (.par [(12, false), (13, false)] (.cons (.prim .tuple (.cons (.comp [16, 17] (.tp (.cons (.nm 16) (.cons (.nm 17) .nil))) (.val (.var 3)) (.cons (.prim (.cmp .In) (.cons (.var 16) (.cons (.tup (.cons (.con (.str ⟨#[107, 101, 101, 112]⟩)) (.cons (.con (.str ⟨#[115, 116, 114, 105, 107, 101]⟩)) .nil))) .nil))) .nil) (.var 17)) .nil)) (.cons (.prim .tuple (.cons (.comp [16, 17] (.tp (.cons (.nm 16) (.cons (.nm 17) .nil))) (.val (.var 3)) (.cons (.prim (.cmp .In) (.cons (.var 16) (.cons (.tup (.cons (.con (.str ⟨#[107, 101, 101, 112]⟩)) (.cons (.con (.str ⟨#[112, 117, 116]⟩)) .nil))) .nil))) .nil) (.var 17)) .nil)) .nil))) (.cons (.asg (.nm 5) false (.prim .join (.cons (.con (.str ⟨#[32]⟩)) (.cons (.comp [16, 17] (.tp (.cons (.nm 16) (.cons (.nm 17) .nil))) (.val (.var 3)) .nil (.ife (.prim (.cmp .Eq) (.cons (.var 16) (.cons (.con (.str ⟨#[107, 101, 101, 112]⟩)) .nil))) (.var 17) (.ife (.prim (.cmp .Eq) (.cons (.var 16) (.cons (.con (.str ⟨#[115, 116, 114, 105, 107, 101]⟩)) .nil))) (.prim (.bin .Add) (.cons (.prim (.bin .Add) (.cons (.con (.str ⟨#[91]⟩)) (.cons (.var 17) .nil))) (.cons (.con (.str ⟨#[93]⟩)) .nil))) (.prim (.bin .Add) (.cons (.prim (.bin .Add) (.cons (.con (.str ⟨#[123]⟩)) (.cons (.var 17) .nil))) (.cons (.con (.str ⟨#[125]⟩)) .nil)))))) .nil)))) (.cons (.iff (.not (.call 16 (.cons (.tup (.cons (.call 4 (.cons (.var 3) .nil)) (.cons (.call 5 (.cons (.var 3) .nil)) (.cons (.call 6 (.cons (.var 3) (.cons (.var 4) .nil))) (.cons (.call 13 (.cons (.var 3) .nil)) .nil))))) (.cons (.tup (.cons (.var 12) (.cons (.var 13) (.cons (.call 19 (.cons (.var 3) (.cons (.var 4) .nil))) (.cons (.var 5) .nil))))) .nil)))) (.cons (.ret (.con (.bool false))) .nil) .nil) (.cons (.asg (.nm 6) false (.comp [11] (.nm 11) (.rng (.cons (.prim .len (.cons (.var 3) .nil)) .nil)) (.cons (.and (.prim (.cmp .Eq) (.cons (.prim .ix (.cons (.prim .ix (.cons (.var 3) (.cons (.var 11) .nil))) (.cons (.con (.int 0)) .nil))) (.cons (.con (.str ⟨#[115, 116, 114, 105, 107, 101]⟩)) .nil))) (.prim (.cmp .In) (.cons (.tup (.cons (.con (.str ⟨#[112, 117, 116]⟩)) (.cons (.prim .ix (.cons (.prim .ix (.cons (.var 3) (.cons (.var 11) .nil))) (.cons (.con (.int 1)) .nil))) .nil))) (.cons (.prim (.bin .Add) (.cons (.prim (.sl true true) (.cons (.var 3) (.cons (.prim .max2 (.cons (.con (.int 0)) (.cons (.prim (.bin .Sub) (.cons (.var 11) (.cons (.con (.int 1)) .nil))) .nil))) (.cons (.var 11) .nil)))) (.cons (.prim (.sl true true) (.cons (.var 3) (.cons (.prim (.bin .Add) (.cons (.var 11) (.cons (.con (.int 1)) .nil))) (.cons (.prim (.bin .Add) (.cons (.var 11) (.cons (.con (.int 2)) .nil))) .nil)))) .nil))) .nil)))) .nil) (.var 11))) (.cons (.iff (.not (.call 16 (.cons (.call 12 (.cons (.var 3) .nil)) (.cons (.prim .tuple (.cons (.var 6) .nil)) .nil)))) (.cons (.ret (.con (.bool false))) .nil) .nil) (.cons (.iff (.prim (.cmp .NotEq) (.cons (.var 3) (.cons (.tup .nil) .nil))) (.cons (.asg (.nm 14) false (.call 15 (.cons (.io 1) (.cons (.prim .len (.cons (.var 3) .nil)) .nil)))) (.cons (.asg (.tp (.cons (.nm 16) (.cons (.nm 17) .nil))) false (.prim .ix (.cons (.var 3) (.cons (.var 14) .nil)))) (.cons (.asg (.nm 10) false (.prim (.bin .Add) (.cons (.prim (.bin .Add) (.cons (.prim (.sl false true) (.cons (.var 3) (.cons (.var 14) .nil))) (.cons (.ife (.prim (.cmp .Eq) (.cons (.var 16) (.cons (.con (.str ⟨#[112, 117, 116]⟩)) .nil))) (.tup .nil) (.tup (.cons (.tup (.cons (.con (.str ⟨#[107, 101, 101, 112]⟩)) (.cons (.var 17) .nil))) .nil))) .nil))) (.cons (.prim (.sl true false) (.cons (.var 3) (.cons (.prim (.bin .Add) (.cons (.var 14) (.cons (.con (.int 1)) .nil))) .nil))) .nil)))) (.cons (.iff (.not (.call 16 (.cons (.call 11 (.cons (.var 3) (.cons (.var 14) .nil))) (.cons (.var 10) .nil)))) (.cons (.ret (.con (.bool false))) .nil) .nil) .nil)))) .nil) (.cons (.par [(15, false), (7, false)] (.cons (.call 18 (.cons (.io 1) (.cons (.con (.int 3)) .nil))) (.cons (.call 18 (.cons (.io 1) (.cons (.con (.int 3)) .nil))) .nil))) (.cons (.asg (.nm 7) false (.call 17 (.cons (.io 1) (.cons (.lst (.cons (.var 7) (.cons (.var 7) (.cons (.prim (.bin .Add) (.cons (.prim (.sl true false) (.cons (.var 15) (.cons (.con (.int 1)) .nil))) (.cons (.prim (.sl false true) (.cons (.var 7) (.cons (.con (.int 1)) .nil))) .nil))) (.cons (.prim (.bin .Add) (.cons (.prim (.sl false true) (.cons (.var 15) (.cons (.con (.int 1)) .nil))) (.cons (.prim (.sl false true) (.cons (.var 7) (.cons (.con (.int 2)) .nil))) .nil))) .nil))))) .nil)))) (.cons (.asg (.nm 8) false (.call 20 (.cons (.var 15) (.cons (.var 7) .nil)))) (.cons (.asg (.nm 9) false (.prim .max1 (.cons (.comp [22] (.nm 22) (.val (.var 8)) .nil (.prim .len (.cons (.comp [16, 17] (.tp (.cons (.nm 16) (.cons (.nm 17) .nil))) (.val (.var 22)) (.cons (.prim (.cmp .Eq) (.cons (.var 16) (.cons (.con (.str ⟨#[107, 101, 101, 112]⟩)) .nil))) .nil) (.con (.int 1))) .nil))) .nil))) (.cons (.asg (.nm 10) false (.tup (.cons (.call 21 (.cons (.var 15) (.cons (.var 7) (.cons (.var 4) .nil)))) (.cons (.prim .len (.cons (.var 8) .nil)) (.cons (.var 9) .nil))))) (.cons (.iff (.not (.call 16 (.cons (.tup (.cons (.call 7 (.cons (.var 15) (.cons (.var 7) (.cons (.var 4) .nil)))) (.cons (.call 9 (.cons (.var 15) (.cons (.var 7) .nil))) (.cons (.call 10 (.cons (.var 15) (.cons (.var 7) .nil))) .nil)))) (.cons (.var 10) .nil)))) (.cons (.ret (.con (.bool false))) .nil) .nil) (.cons (.for_ (.nm 11) (.rng (.cons (.con (.int 2)) .nil)) (.cons (.asg (.tp (.cons (.nm 18) (.cons (.nm 19) .nil))) false (.call 22 (.cons (.io 1) (.cons (.var 3) .nil)))) (.cons (.asg (.tp (.cons (.nm 20) (.cons (.nm 21) .nil))) false (.call 23 (.cons (.io 1) (.cons (.var 12) .nil)))) (.cons (.iff (.not (.call 16 (.cons (.tup (.cons (.call 3 (.cons (.var 18) .nil)) (.cons (.call 2 (.cons (.var 20) .nil)) .nil))) (.cons (.tup (.cons (.var 19) (.cons (.var 21) .nil))) .nil)))) (.cons (.ret (.con (.bool false))) .nil) .nil) .nil)))) .nil)))))))))))))))) (.cons (.ret (.con (.bool true))) .nil))) }
def tab : List Fi := [fi0, fi1, fi2, fi3, fi4, fi5, fi6, fi7, fi8, fi9, fi10, fi11, fi12, fi13, fi14, fi15, fi16, fi17, fi18, fi19, fi20, fi21, fi22, fi23, fi24]
end K24

section
namespace K24
/-! the plain law: mended texts -/
inductive Kd | keep | strike | put
deriving DecidableEq
section
variable {W : Type} [DecidableEq W] (old new : List W)
abbrev RowT (W : Type) := List (Kd × W)
/-- all mended texts from i, j on -/
def rowsF : Nat → Nat → Nat → List (RowT W)
  | 0, _, _ => []
  | f + 1, i, j => (if i = old.length ∧ j = new.length then [[]] else []) ++
      ((match old[i]? with | some x => (rowsF f (i + 1) j).map ((.strike, x) :: ·) | none => []) ++
      ((match new[j]? with | some y => (rowsF f i (j + 1)).map ((.put, y) :: ·) | none => []) ++
      (match old[i]?, new[j]? with | some x, some y => if x = y then (rowsF f (i + 1) (j + 1)).map ((.keep, x) :: ·) else [] | _, _ => [])))
theorem rows_more : ∀ {f i j : Nat}, old.length - i + (new.length - j) < f → rowsF old new (f + 1) i j = rowsF old new f i j
  | 0, i, j, h => by omega
  | f + 1, i, j, h => by
    show ((if i = old.length ∧ j = new.length then [[]] else []) ++
      ((match old[i]? with | some x => (rowsF old new (f + 1) (i + 1) j).map ((.strike, x) :: ·) | none => []) ++
      ((match new[j]? with | some y => (rowsF old new (f + 1) i (j + 1)).map ((.put, y) :: ·) | none => []) ++
      (match old[i]?, new[j]? with | some x, some y => if x = y then (rowsF old new (f + 1) (i + 1) (j + 1)).map ((.keep, x) :: ·) else [] | _, _ => [])))) = ((if i = old.length ∧ j = new.length then [[]] else []) ++
      ((match old[i]? with | some x => (rowsF old new f (i + 1) j).map ((.strike, x) :: ·) | none => []) ++
      ((match new[j]? with | some y => (rowsF old new f i (j + 1)).map ((.put, y) :: ·) | none => []) ++
      (match old[i]?, new[j]? with | some x, some y => if x = y then (rowsF old new f (i + 1) (j + 1)).map ((.keep, x) :: ·) else [] | _, _ => []))))
    congr 1
    congr 1
    · cases hx : old[i]? with
      | none => rfl
      | some x =>
        have := (List.getElem?_eq_some_iff.mp hx).1
        show List.map _ _ = List.map _ _
        rw [rows_more (by omega)]
    congr 1
    · cases hy : new[j]? with
      | none => rfl
      | some y =>
        have := (List.getElem?_eq_some_iff.mp hy).1
        show List.map _ _ = List.map _ _
        rw [rows_more (by omega)]
    · cases hx : old[i]? with
      | none => rfl
      | some x =>
        cases hy : new[j]? with
        | none => rfl
        | some y =>
          have := (List.getElem?_eq_some_iff.mp hx).1
          have := (List.getElem?_eq_some_iff.mp hy).1
          show (if x = y then List.map _ _ else []) = if x = y then List.map _ _ else []
          rw [rows_more (by omega)]
def rowsN (i j : Nat) : List (RowT W) := rowsF old new (old.length + new.length + 1) i j
def doneN (i j : Nat) : List (RowT W) := if i = old.length ∧ j = new.length then [[]] else []
def strN (i j : Nat) : List (RowT W) := match old[i]? with | some x => (rowsN old new (i + 1) j).map ((.strike, x) :: ·) | none => []
def putN (i j : Nat) : List (RowT W) := match new[j]? with | some y => (rowsN old new i (j + 1)).map ((.put, y) :: ·) | none => []
def keepN (i j : Nat) : List (RowT W) := match old[i]?, new[j]? with | some x, some y => if x = y then (rowsN old new (i + 1) (j + 1)).map ((.keep, x) :: ·) else [] | _, _ => []
theorem rows_eq (i j : Nat) : rowsN old new i j = doneN old new i j ++ (strN old new i j ++ (putN old new i j ++ keepN old new i j)) := by
  unfold rowsN doneN strN putN keepN rowsN
  rw [← rows_more old new (by omega)]
  rfl
theorem mem_rows {i j : Nat} {r : RowT W} : r ∈ rowsN old new i j ↔ (i = old.length ∧ j = new.length ∧ r = []) ∨ (∃ x s, old[i]? = some x ∧ s ∈ rowsN old new (i + 1) j ∧ r = (.strike, x) :: s) ∨ (∃ y s, new[j]? = some y ∧ s ∈ rowsN old new i (j + 1) ∧ r = (.put, y) :: s) ∨ ∃ x s, old[i]? = some x ∧ new[j]? = some x ∧ s ∈ rowsN old new (i + 1) (j + 1) ∧ r = (.keep, x) :: s := by
  rw [rows_eq, List.mem_append, List.mem_append, List.mem_append]
  unfold doneN strN putN keepN
  constructor
  · rintro (h | h | h | h)
    · left
      by_cases c : i = old.length ∧ j = new.length
      · rw [if_pos c] at h
        exact ⟨c.1, c.2, List.mem_singleton.mp h⟩
      · rw [if_neg c] at h
        cases h
    · right; left
      cases hx : old[i]? with
      | none => rw [hx] at h; cases h
      | some x =>
        rw [hx] at h
        obtain ⟨s, hs, rfl⟩ := List.mem_map.mp h
        exact ⟨x, s, rfl, hs, rfl⟩
    · right; right; left
      cases hx : new[j]? with
      | none => rw [hx] at h; cases h
      | some x =>
        rw [hx] at h
        obtain ⟨s, hs, rfl⟩ := List.mem_map.mp h
        exact ⟨x, s, rfl, hs, rfl⟩
    · right; right; right
      cases hx : old[i]? with
      | none => rw [hx] at h; cases h
      | some x =>
        cases hy : new[j]? with
        | none => rw [hx, hy] at h; cases h
        | some y =>
          rw [hx, hy] at h
          by_cases c : x = y
          · subst c
            have h : r ∈ (if x = x then (rowsN old new (i + 1) (j + 1)).map ((Kd.keep, x) :: ·) else []) := h
            rw [if_pos rfl] at h
            obtain ⟨s, hs, rfl⟩ := List.mem_map.mp h
            exact ⟨x, s, rfl, rfl, hs, rfl⟩
          · have h : r ∈ (if x = y then (rowsN old new (i + 1) (j + 1)).map ((Kd.keep, x) :: ·) else []) := h
            rw [if_neg c] at h
            cases h
  · rintro (⟨h1, h2, rfl⟩ | ⟨x, s, h1, h2, rfl⟩ | ⟨x, s, h1, h2, rfl⟩ | ⟨x, s, h1, h2, h3, rfl⟩)
    · left
      rw [if_pos ⟨h1, h2⟩]
      exact List.mem_cons_self
    · right; left
      rw [h1]
      exact List.mem_map.mpr ⟨s, h2, rfl⟩
    · right; right; left
      rw [h1]
      exact List.mem_map.mpr ⟨s, h2, rfl⟩
    · right; right; right
      rw [h1, h2]
      show _ ∈ (if x = x then (rowsN old new (i + 1) (j + 1)).map ((Kd.keep, x) :: ·) else [])
      rw [if_pos rfl]
      exact List.mem_map.mpr ⟨s, h3, rfl⟩
/-- induction from the ends -/
theorem from_ends {P : Nat → Nat → Prop} (h : ∀ i j, i ≤ old.length → j ≤ new.length → (i < old.length → P (i + 1) j) → (j < new.length → P i (j + 1)) → (i < old.length → j < new.length → P (i + 1) (j + 1)) → P i j) : ∀ i j, i ≤ old.length → j ≤ new.length → P i j := by
  suffices q : ∀ n i j, i ≤ old.length → j ≤ new.length → old.length - i + (new.length - j) ≤ n → P i j from fun i j hi hj => q _ i j hi hj (Nat.le_refl _)
  intro n
  induction n with
  | zero => exact fun i j hi hj hn => h i j hi hj (fun _ => by omega) (fun _ => by omega) (fun _ _ => by omega)
  | succ n ih => exact fun i j hi hj hn => h i j hi hj (fun _ => ih _ _ (by omega) hj (by omega)) (fun _ => ih _ _ hi (by omega) (by omega)) (fun _ _ => ih _ _ (by omega) (by omega) (by omega))
def aheadN (r : RowT W) : List W := (r.filter fun p => decide (p.1 ≠ .put)).map (·.2)
def behindN (r : RowT W) : List W := (r.filter fun p => decide (p.1 ≠ .strike)).map (·.2)
theorem row_texts : ∀ i j, i ≤ old.length → j ≤ new.length → ∀ r ∈ rowsN old new i j, aheadN r = old.drop i ∧ behindN r = new.drop j ∧ r.length ≤ old.length - i + (new.length - j) := by
  refine from_ends old new fun i j hi hj h1 h2 h3 => ?_
  intro r hr
  rcases (mem_rows old new).mp hr with ⟨e1, e2, rfl⟩ | ⟨x, s, e1, e2, rfl⟩ | ⟨x, s, e1, e2, rfl⟩ | ⟨x, s, e1, e2, e3, rfl⟩
  · subst e1; subst e2
    exact ⟨by simp [aheadN], by simp [behindN], Nat.zero_le _⟩
  · obtain ⟨hl, he⟩ := List.getElem?_eq_some_iff.mp e1
    obtain ⟨a, b, c⟩ := h1 hl s e2
    refine ⟨?_, ?_, by rw [List.length_cons]; omega⟩
    · rw [List.drop_eq_getElem_cons hl, he, ← a]
      rfl
    · rw [← b]
      rfl
  · obtain ⟨hl, he⟩ := List.getElem?_eq_some_iff.mp e1
    obtain ⟨a, b, c⟩ := h2 hl s e2
    refine ⟨?_, ?_, by rw [List.length_cons]; omega⟩
    · rw [← a]
      rfl
    · rw [List.drop_eq_getElem_cons hl, he, ← b]
      rfl
  · obtain ⟨hl, he⟩ := List.getElem?_eq_some_iff.mp e1
    obtain ⟨hl2, he2⟩ := List.getElem?_eq_some_iff.mp e2
    obtain ⟨a, b, c⟩ := h3 hl hl2 s e3
    refine ⟨?_, ?_, by rw [List.length_cons]; omega⟩
    · rw [List.drop_eq_getElem_cons hl, he, ← a]
      rfl
    · rw [List.drop_eq_getElem_cons hl2, he2, ← b]
      rfl
theorem rows_ne : ∀ i j, i ≤ old.length → j ≤ new.length → rowsN old new i j ≠ [] := by
  refine from_ends old new fun i j hi hj h1 h2 h3 => ?_
  intro e
  by_cases c : i < old.length
  · obtain ⟨s, hs⟩ := List.exists_mem_of_ne_nil _ (h1 c)
    have : (Kd.strike, old[i]) :: s ∈ rowsN old new i j := (mem_rows old new).mpr (.inr (.inl ⟨_, s, List.getElem?_eq_getElem c, hs, rfl⟩))
    rw [e] at this
    cases this
  · by_cases c2 : j < new.length
    · obtain ⟨s, hs⟩ := List.exists_mem_of_ne_nil _ (h2 c2)
      have : (Kd.put, new[j]) :: s ∈ rowsN old new i j := (mem_rows old new).mpr (.inr (.inr (.inl ⟨_, s, List.getElem?_eq_getElem c2, hs, rfl⟩)))
      rw [e] at this
      cases this
    · have : [] ∈ rowsN old new i j := (mem_rows old new).mpr (.inl ⟨by omega, by omega, rfl⟩)
      rw [e] at this
      cases this
/-! going on step by step -/
abbrev StT (W : Type) := RowT W × Nat × Nat
def succS (s : StT W) : List (StT W) := (match old[s.2.1]? with | some x => [(s.1 ++ [(.strike, x)], s.2.1 + 1, s.2.2)] | none => []) ++
  ((match new[s.2.2]? with | some y => [(s.1 ++ [(.put, y)], s.2.1, s.2.2 + 1)] | none => []) ++
  (match old[s.2.1]?, new[s.2.2]? with | some x, some y => if x = y then [(s.1 ++ [(.keep, x)], s.2.1 + 1, s.2.2 + 1)] else [] | _, _ => []))
def extS (s : StT W) : List (RowT W) := (rowsN old new s.2.1 s.2.2).map (s.1 ++ ·)
def compS (s : StT W) : List (RowT W) := if s.2.1 = old.length ∧ s.2.2 = new.length then [s.1] else []
theorem ext_step (s : StT W) : extS old new s = compS old new s ++ (succS old new s).flatMap (extS old new) := by
  obtain ⟨row, i, j⟩ := s
  unfold extS compS succS
  show (rowsN old new i j).map (row ++ ·) = _
  rw [rows_eq, List.map_append, List.map_append, List.map_append, List.flatMap_append, List.flatMap_append]
  have hc : ∀ (k : Kd) (x : W) (l : List (RowT W)), (l.map ((k, x) :: ·)).map (row ++ ·) = l.map ((row ++ [(k, x)]) ++ ·) := fun k x l => by
    rw [List.map_map]
    apply List.map_congr_left
    intro r _
    show row ++ (k, x) :: r = (row ++ [(k, x)]) ++ r
    rw [List.append_assoc]
    rfl
  congr 1
  · unfold doneN
    show List.map _ (if i = old.length ∧ j = new.length then [[]] else []) = if i = old.length ∧ j = new.length then [row] else []
    by_cases c : i = old.length ∧ j = new.length
    · rw [if_pos c, if_pos c]
      simp
    · rw [if_neg c, if_neg c]
      rfl
  congr 1
  · unfold strN
    show List.map _ (match old[i]? with | some x => (rowsN old new (i + 1) j).map ((.strike, x) :: ·) | none => []) = List.flatMap _ (match old[i]? with | some x => [(row ++ [(Kd.strike, x)], i + 1, j)] | none => [])
    cases old[i]? with
    | none => rfl
    | some x =>
      show List.map _ (List.map _ _) = List.flatMap _ [_]
      rw [hc]
      simp
  congr 1
  · unfold putN
    show List.map _ (match new[j]? with | some x => (rowsN old new i (j + 1)).map ((.put, x) :: ·) | none => []) = List.flatMap _ (match new[j]? with | some x => [(row ++ [(Kd.put, x)], i, j + 1)] | none => [])
    cases new[j]? with
    | none => rfl
    | some x =>
      show List.map _ (List.map _ _) = List.flatMap _ [_]
      rw [hc]
      simp
  · unfold keepN
    show List.map _ (match old[i]?, new[j]? with | some x, some y => if x = y then (rowsN old new (i + 1) (j + 1)).map ((.keep, x) :: ·) else [] | _, _ => []) = List.flatMap _ (match old[i]?, new[j]? with | some x, some y => if x = y then [(row ++ [(Kd.keep, x)], i + 1, j + 1)] else [] | _, _ => [])
    cases old[i]? with
    | none => rfl
    | some x =>
      cases new[j]? with
      | none => rfl
      | some y =>
        show List.map _ (if x = y then _ else []) = List.flatMap _ (if x = y then _ else [])
        by_cases c : x = y
        · rw [if_pos c, if_pos c, hc]
          simp
        · rw [if_neg c, if_neg c]
          rfl
theorem flat_perm {α β : Type} (f g : α → List β) : ∀ l : List α, (l.flatMap fun a => f a ++ g a).Perm (l.flatMap f ++ l.flatMap g)
  | [] => .nil
  | a :: l => by
    rw [List.flatMap_cons, List.flatMap_cons, List.flatMap_cons]
    have ih := flat_perm f g l
    refine (List.Perm.append_left _ ih).trans ?_
    rw [List.append_assoc, List.append_assoc]
    refine List.Perm.append_left _ ?_
    rw [← List.append_assoc, ← List.append_assoc]
    exact List.Perm.append_right _ List.perm_append_comm
/-- the front after n steps, and what is done by then -/
def front : Nat → List (StT W)
  | 0 => [([], 0, 0)]
  | n + 1 => (front n).flatMap (succS old new)
def doneL : Nat → List (RowT W)
  | 0 => []
  | n + 1 => doneL n ++ (front old new n).flatMap (compS old new)
theorem done_perm : ∀ n, (doneL old new n ++ (front old new n).flatMap (extS old new)).Perm (rowsN old new 0 0)
  | 0 => by
    show ([] ++ [([], 0, 0)].flatMap (extS old new)).Perm _
    simp [extS]
  | n + 1 => by
    refine List.Perm.trans ?_ (done_perm n)
    show ((doneL old new n ++ (front old new n).flatMap (compS old new)) ++ ((front old new n).flatMap (succS old new)).flatMap (extS old new)).Perm _
    rw [List.append_assoc]
    refine List.Perm.append_left _ ?_
    have e : (front old new n).flatMap (extS old new) = (front old new n).flatMap fun s => compS old new s ++ (succS old new s).flatMap (extS old new) := by
      congr 1
      funext s
      exact ext_step old new s
    rw [e, List.flatMap_assoc]
    exact (flat_perm _ _ _).symm
theorem succ_mem {s t : StT W} (h : t ∈ succS old new s) (hi : s.2.1 ≤ old.length) (hj : s.2.2 ≤ new.length) : t.2.1 ≤ old.length ∧ t.2.2 ≤ new.length ∧ s.2.1 + s.2.2 < t.2.1 + t.2.2 ∧ t.1.length = s.1.length + 1 := by
  obtain ⟨row, i, j⟩ := s
  unfold succS at h
  rw [List.mem_append, List.mem_append] at h
  have h : t ∈ (match old[i]? with | some x => [(row ++ [(Kd.strike, x)], i + 1, j)] | none => []) ∨ t ∈ (match new[j]? with | some y => [(row ++ [(Kd.put, y)], i, j + 1)] | none => []) ∨ t ∈ (match old[i]?, new[j]? with | some x, some y => if x = y then [(row ++ [(Kd.keep, x)], i + 1, j + 1)] else [] | _, _ => []) := h
  have hi : i ≤ old.length := hi
  have hj : j ≤ new.length := hj
  rcases h with h | h | h
  · cases hx : old[i]? with
    | none => rw [hx] at h; cases h
    | some x =>
      rw [hx] at h
      have := (List.getElem?_eq_some_iff.mp hx).1
      rw [List.mem_singleton.mp h]
      refine ⟨this, hj, ?_, by simp⟩
      show i + j < i + 1 + j
      omega
  · cases hx : new[j]? with
    | none => rw [hx] at h; cases h
    | some x =>
      rw [hx] at h
      have := (List.getElem?_eq_some_iff.mp hx).1
      rw [List.mem_singleton.mp h]
      refine ⟨hi, this, ?_, by simp⟩
      show i + j < i + (j + 1)
      omega
  · cases hx : old[i]? with
    | none => rw [hx] at h; cases h
    | some x =>
      cases hy : new[j]? with
      | none => rw [hx, hy] at h; cases h
      | some y =>
        rw [hx, hy] at h
        have h1 := (List.getElem?_eq_some_iff.mp hx).1
        have h2 := (List.getElem?_eq_some_iff.mp hy).1
        have h : t ∈ (if x = y then [(row ++ [(Kd.keep, x)], i + 1, j + 1)] else []) := h
        by_cases c : x = y
        · rw [if_pos c] at h
          rw [List.mem_singleton.mp h]
          refine ⟨h1, h2, ?_, by simp⟩
          show i + j < i + 1 + (j + 1)
          omega
        · rw [if_neg c] at h
          cases h
theorem front_ok : ∀ n, ∀ s ∈ front old new n, s.2.1 ≤ old.length ∧ s.2.2 ≤ new.length ∧ n ≤ s.2.1 + s.2.2 ∧ s.1.length = n
  | 0, s, h => by
    rw [List.mem_singleton.mp h]
    exact ⟨Nat.zero_le _, Nat.zero_le _, Nat.zero_le _, rfl⟩
  | n + 1, s, h => by
    obtain ⟨t, ht, hs⟩ := List.mem_flatMap.mp h
    obtain ⟨a, b, c, d⟩ := front_ok n t ht
    obtain ⟨a2, b2, c2, d2⟩ := succ_mem old new hs a b
    exact ⟨a2, b2, by omega, by omega⟩
theorem front_end {n : Nat} (h : old.length + new.length < n) : front old new n = [] := by
  cases hf : front old new n with
  | nil => rfl
  | cons s l =>
    obtain ⟨a, b, c, _⟩ := front_ok old new n s (by rw [hf]; exact List.mem_cons_self)
    omega
theorem succ_len (s : StT W) : (succS old new s).length ≤ 3 := by
  unfold succS
  rw [List.length_append, List.length_append]
  have h1 : (match old[s.2.1]? with | some x => [(s.1 ++ [(Kd.strike, x)], s.2.1 + 1, s.2.2)] | none => []).length ≤ 1 := by cases old[s.2.1]? <;> simp
  have h2 : (match new[s.2.2]? with | some y => [(s.1 ++ [(Kd.put, y)], s.2.1, s.2.2 + 1)] | none => []).length ≤ 1 := by cases new[s.2.2]? <;> simp
  have h3 : (match old[s.2.1]?, new[s.2.2]? with | some x, some y => if x = y then [(s.1 ++ [(Kd.keep, x)], s.2.1 + 1, s.2.2 + 1)] else [] | _, _ => []).length ≤ 1 := by
    cases old[s.2.1]? with
    | none => simp
    | some x =>
      cases new[s.2.2]? with
      | none => simp
      | some y =>
        show (if x = y then _ else []).length ≤ 1
        by_cases c : x = y
        · rw [if_pos c]; simp
        · rw [if_neg c]; simp
  exact Nat.add_le_add h1 (Nat.add_le_add h2 h3)
theorem front_len : ∀ n, (front old new n).length ≤ 3 ^ n
  | 0 => Nat.le_refl _
  | n + 1 => by
    have ih := front_len n
    show ((front old new n).flatMap (succS old new)).length ≤ 3 ^ (n + 1)
    have : ∀ l : List (StT W), (l.flatMap (succS old new)).length ≤ 3 * l.length := by
      intro l
      induction l with
      | nil => simp
      | cons s l ih =>
        rw [List.flatMap_cons, List.length_append, List.length_cons]
        have := succ_len old new s
        omega
    have := this (front old new n)
    rw [Nat.pow_succ]
    omega
theorem done_len : ∀ n, (doneL old new n).length ≤ 3 ^ n
  | 0 => Nat.zero_le _
  | n + 1 => by
    have ih := done_len n
    have fl := front_len old new n
    show (doneL old new n ++ (front old new n).flatMap (compS old new)).length ≤ _
    rw [List.length_append]
    have : ∀ l : List (StT W), (l.flatMap (compS old new)).length ≤ l.length := by
      intro l
      induction l with
      | nil => simp
      | cons s l ih =>
        rw [List.flatMap_cons, List.length_append, List.length_cons]
        have : (compS old new s).length ≤ 1 := by unfold compS; split <;> simp
        omega
    have := this (front old new n)
    rw [Nat.pow_succ]
    omega
end
/-! the page -/
structure Ent (W : Type) where
  word : W
  come : Nat
  gone : Option Nat
section
variable {W : Type} [DecidableEq W]
def standsE (e : Ent W) (t : Nat) : Bool := decide (e.come ≤ t) && (match e.gone with | none => true | some g => decide (t < g))
def textE (page : List (Ent W)) (t : Nat) : List W := (page.filter fun e => standsE e t).map (·.word)
/-- right up to turn t -/
def OkP (t : Nat) (page : List (Ent W)) : Prop := ∀ e ∈ page, e.come ≤ t ∧ ∀ g, e.gone = some g → e.come < g ∧ g ≤ t
def mendE (t : Nat) : List (Ent W) → RowT W → List (Ent W)
  | page, [] => page
  | page, (.put, w) :: r => ⟨w, t, none⟩ :: mendE t page r
  | [], (.keep, _) :: _ => []
  | [], (.strike, _) :: _ => []
  | e :: page, (.keep, w) :: r => if e.gone.isSome = true then e :: mendE t page ((.keep, w) :: r) else e :: mendE t page r
  | e :: page, (.strike, w) :: r => if e.gone.isSome = true then e :: mendE t page ((.strike, w) :: r) else ⟨e.word, e.come, some t⟩ :: mendE t page r
termination_by page r => page.length + r.length
theorem stands_now {t : Nat} {e : Ent W} (h1 : e.come ≤ t) (h2 : ∀ g, e.gone = some g → e.come < g ∧ g ≤ t) : standsE e (t + 1) = !e.gone.isSome := by
  unfold standsE
  rw [decide_eq_true (by omega), Bool.true_and]
  cases hg : e.gone with
  | none => rfl
  | some g =>
    have := h2 g hg
    show decide (t + 1 < g) = false
    exact decide_eq_false (by omega)
theorem text_cons (e : Ent W) (page : List (Ent W)) (t : Nat) : textE (e :: page) t = if standsE e t = true then e.word :: textE page t else textE page t := by
  unfold textE
  rw [List.filter_cons]
  by_cases c : standsE e t = true
  · rw [if_pos c, if_pos c]; rfl
  · rw [if_neg c, if_neg c]
theorem ahead_put (w : W) (r : RowT W) : aheadN ((.put, w) :: r) = aheadN r := rfl
theorem ahead_keep (w : W) (r : RowT W) : aheadN ((.keep, w) :: r) = w :: aheadN r := rfl
theorem ahead_strike (w : W) (r : RowT W) : aheadN ((.strike, w) :: r) = w :: aheadN r := rfl
theorem behind_put (w : W) (r : RowT W) : behindN ((.put, w) :: r) = w :: behindN r := rfl
theorem behind_keep (w : W) (r : RowT W) : behindN ((.keep, w) :: r) = w :: behindN r := rfl
theorem behind_strike (w : W) (r : RowT W) : behindN ((.strike, w) :: r) = behindN r := rfl
/-- what a mended page shows -/
theorem mend_ok (t : Nat) : ∀ (page : List (Ent W)) (r : RowT W), OkP t page → textE page (t + 1) = aheadN r → (∀ s, s ≤ t → textE (mendE (t + 1) page r) s = textE page s) ∧ textE (mendE (t + 1) page r) (t + 1) = behindN r ∧ OkP (t + 1) (mendE (t + 1) page r)
  | page, [], hp, ht => by
    rw [mendE]
    refine ⟨fun _ _ => rfl, ht, fun e he => ?_⟩
    obtain ⟨a, b⟩ := hp e he
    exact ⟨by omega, fun g hg => by have := b g hg; omega⟩
  | page, (.put, w) :: r, hp, ht => by
    rw [ahead_put] at ht
    obtain ⟨a, b, c⟩ := mend_ok t page r hp ht
    rw [mendE]
    refine ⟨fun s hs => ?_, ?_, fun e he => ?_⟩
    · rw [text_cons, if_neg, a s hs]
      unfold standsE
      rw [decide_eq_false (show ¬ t + 1 ≤ s by omega)]
      simp
    · rw [text_cons, if_pos, b, behind_put]
      unfold standsE
      simp
    · rcases List.mem_cons.mp he with rfl | he
      · exact ⟨Nat.le_refl _, fun g hg => by cases hg⟩
      · exact c e he
  | [], (.keep, w) :: r, _, ht => by cases ht
  | [], (.strike, w) :: r, _, ht => by cases ht
  | e :: page, (.keep, w) :: r, hp, ht => by
    have he := hp e List.mem_cons_self
    have hp2 : OkP t page := fun x hx => hp x (List.mem_cons_of_mem _ hx)
    have hst := stands_now he.1 he.2
    have ok1 : e.come ≤ t + 1 ∧ ∀ g, e.gone = some g → e.come < g ∧ g ≤ t + 1 := ⟨by omega, fun g hg => by have := he.2 g hg; omega⟩
    rw [text_cons] at ht
    rw [mendE]
    by_cases c : e.gone.isSome = true
    · rw [c] at hst
      rw [if_neg (by rw [hst]; decide)] at ht
      rw [if_pos c]
      obtain ⟨a, b, d⟩ := mend_ok t page ((.keep, w) :: r) hp2 ht
      refine ⟨fun s hs => by rw [text_cons, text_cons, a s hs], ?_, fun x hx => ?_⟩
      · rw [text_cons, if_neg (by rw [hst]; decide), b]
      · rcases List.mem_cons.mp hx with rfl | hx
        · exact ok1
        · exact d x hx
    · rw [Bool.eq_false_iff.mpr c] at hst
      rw [if_pos (by rw [hst]; decide), ahead_keep] at ht
      injection ht with h1 h2
      rw [if_neg c]
      obtain ⟨a, b, d⟩ := mend_ok t page r hp2 h2
      refine ⟨fun s hs => by rw [text_cons, text_cons, a s hs], ?_, fun x hx => ?_⟩
      · rw [text_cons, if_pos (by rw [hst]; decide), b, behind_keep, h1]
      · rcases List.mem_cons.mp hx with rfl | hx
        · exact ok1
        · exact d x hx
  | e :: page, (.strike, w) :: r, hp, ht => by
    have he := hp e List.mem_cons_self
    have hp2 : OkP t page := fun x hx => hp x (List.mem_cons_of_mem _ hx)
    have hst := stands_now he.1 he.2
    have ok1 : e.come ≤ t + 1 ∧ ∀ g, e.gone = some g → e.come < g ∧ g ≤ t + 1 := ⟨by omega, fun g hg => by have := he.2 g hg; omega⟩
    rw [text_cons] at ht
    rw [mendE]
    by_cases c : e.gone.isSome = true
    · rw [c] at hst
      rw [if_neg (by rw [hst]; decide)] at ht
      rw [if_pos c]
      obtain ⟨a, b, d⟩ := mend_ok t page ((.strike, w) :: r) hp2 ht
      refine ⟨fun s hs => by rw [text_cons, text_cons, a s hs], ?_, fun x hx => ?_⟩
      · rw [text_cons, if_neg (by rw [hst]; decide), b]
      · rcases List.mem_cons.mp hx with rfl | hx
        · exact ok1
        · exact d x hx
    · rw [Bool.eq_false_iff.mpr c] at hst
      rw [if_pos (by rw [hst]; decide), ahead_strike] at ht
      injection ht with h1 h2
      rw [if_neg c]
      obtain ⟨a, b, d⟩ := mend_ok t page r hp2 h2
      have hg : e.gone = none := by
        cases hg : e.gone with
        | none => rfl
        | some g => rw [hg] at c; exact absurd rfl c
      refine ⟨fun s hs => ?_, ?_, fun x hx => ?_⟩
      · rw [text_cons, text_cons, a s hs]
        have : standsE (⟨e.word, e.come, some (t + 1)⟩ : Ent W) s = standsE e s := by
          unfold standsE
          rw [hg]
          show (decide (e.come ≤ s) && decide (s < t + 1)) = (decide (e.come ≤ s) && true)
          rw [decide_eq_true (show s < t + 1 by omega)]
        rw [this]
      · rw [text_cons, if_neg, b, behind_strike]
        unfold standsE
        simp
      · rcases List.mem_cons.mp hx with rfl | hx
        · exact ⟨by show e.come ≤ t + 1; omega, fun g hg => by
            injection hg with hg
            rw [← hg]
            show e.come < t + 1 ∧ t + 1 ≤ t + 1
            omega⟩
        · exact d x hx
termination_by page r => page.length + r.length
end
end K24
end

section
namespace K24
open PySem DV
abbrev Row := RowT Str
def kdS : Kd → Str
  | .keep => ⟨#[107, 101, 101, 112]⟩
  | .strike => ⟨#[115, 116, 114, 105, 107, 101]⟩
  | .put => ⟨#[112, 117, 116]⟩
theorem kd_inj : ∀ a b, kdS a = kdS b → a = b := by
  intro a b h
  cases a <;> cases b <;> first | rfl | (exact absurd h (by decide))
theorem kd_put (k : Kd) : decide (kdS k = ⟨#[112, 117, 116]⟩) = decide (k = .put) := by cases k <;> decide
theorem kd_strike (k : Kd) : decide (kdS k = ⟨#[115, 116, 114, 105, 107, 101]⟩) = decide (k = .strike) := by cases k <;> decide
theorem kd_keep (k : Kd) : decide (kdS k = ⟨#[107, 101, 101, 112]⟩) = decide (k = .keep) := by cases k <;> decide
def mpD (p : Kd × Str) : D := .tuple [.str (kdS p.1), .str p.2]
def mrD (r : Row) : D := .tuple (r.map mpD)
def strT (ws : List Str) : D := .tuple (ws.map .str)
theorem len_strT (ws : List Str) : lenF (strT ws) = some (.int ws.length) := by
  show some (PyData.int ((ws.map PyData.str).length : Nat)) = _
  rw [List.length_map]
theorem at_strT {ws : List Str} {k : Nat} {x : Str} (h : ws[k]? = some x) : ixF (strT ws) (natK k) = some (.str x) := atI_nat (by rw [List.getElem?_map, h]; rfl)
theorem ahead_ok {n : Nat} {r : Row} (hl : r.length ≤ 1000) : evF tab (n + 1) 4 [mrD r] = some (strT (aheadN r), []) := by
  refine call_eq (fi := fi4) rfl [.sh (mrD r)] rfl ?_
  show Run _ fi4.body [.sh (mrD r), .no, .no] _
  unfold fi4
  have e : evE (evF tab n) (.comp [1, 2] (.tp (.cons (.nm 1) (.cons (.nm 2) .nil))) (.val (.var 0)) (.cons (.prim (.cmp .NotEq) (.cons (.var 1) (.cons (.con (.str ⟨#[112, 117, 116]⟩)) .nil))) .nil) (.var 2)) [.sh (mrD r), .no, .no] = some (.list ((aheadN r).map .str), [.sh (mrD r), .no, .no]) := by
    unfold aheadN
    rw [List.map_map]
    refine comp_fm r mpD _ _ (by simp [mrD]) rfl (by rw [sizeLine_eq]; omega) fun p hp => ⟨[.sh (mrD r), .sh (.str (kdS p.1)), .sh (.str p.2)], by exact rfl, by exact rfl, ?_, fun _ => by simp⟩
    have := kd_put p.1
    have e2 : eqF (.str (kdS p.1)) (.str ⟨#[112, 117, 116]⟩) = some (decide (p.1 = .put)) := by rw [eqSSw, this]
    generalize mrD r = md
    generalize PyData.str (kdS p.1) = kd at e2
    simp [e2]
  refine run_rt (r := (strT (aheadN r), [.sh (mrD r), .no, .no])) ?_ ⟨_, rfl, rfl⟩
  rw [ev_prim, ops_comp, e]
  rfl
theorem behind_ok {n : Nat} {r : Row} (hl : r.length ≤ 1000) : evF tab (n + 1) 5 [mrD r] = some (strT (behindN r), []) := by
  refine call_eq (fi := fi5) rfl [.sh (mrD r)] rfl ?_
  show Run _ fi5.body [.sh (mrD r), .no, .no] _
  unfold fi5
  have e : evE (evF tab n) (.comp [1, 2] (.tp (.cons (.nm 1) (.cons (.nm 2) .nil))) (.val (.var 0)) (.cons (.prim (.cmp .NotEq) (.cons (.var 1) (.cons (.con (.str ⟨#[115, 116, 114, 105, 107, 101]⟩)) .nil))) .nil) (.var 2)) [.sh (mrD r), .no, .no] = some (.list ((behindN r).map .str), [.sh (mrD r), .no, .no]) := by
    unfold behindN
    rw [List.map_map]
    refine comp_fm r mpD _ _ (by simp [mrD]) rfl (by rw [sizeLine_eq]; omega) fun p hp => ⟨[.sh (mrD r), .sh (.str (kdS p.1)), .sh (.str p.2)], by exact rfl, by exact rfl, ?_, fun _ => by simp⟩
    have := kd_strike p.1
    have e2 : eqF (.str (kdS p.1)) (.str ⟨#[115, 116, 114, 105, 107, 101]⟩) = some (decide (p.1 = .strike)) := by rw [eqSSw, this]
    generalize mrD r = md
    generalize PyData.str (kdS p.1) = kd at e2
    simp [e2]
  refine run_rt (r := (strT (behindN r), [.sh (mrD r), .no, .no])) ?_ ⟨_, rfl, rfl⟩
  rw [ev_prim, ops_comp, e]
  rfl
/-- the ink of a mended text; a: a strike goes on -/
def inkN (line : Nat) : Bool → Row → Nat
  | _, [] => 0
  | a, (k, w) :: r => (match k with
    | .put => w.length + 1
    | .strike => if a then 0 else line
    | .keep => 0) + inkN line (decide (k = .strike)) r
theorem ink_ok {n line : Nat} {r : Row} (hl : r.length ≤ 1000) : evF tab (n + 1) 6 [mrD r, natK line] = some (natK (inkN line false r), []) := by
  refine call_eq (fi := fi6) rfl [.sh (mrD r), .sh (natK line)] rfl ?_
  show Run _ fi6.body [.sh (mrD r), .sh (natK line), .no, .no, .no, .no] _
  unfold fi6
  refine run_nx (ρ' := [.sh (mrD r), .sh (natK line), .sh (natK 0), .sh .none, .no, .no]) (by simp; rfl) ?_
  refine run_forA (ρ' := [.sh (mrD r), .sh (natK line), .sh (natK 0), .sh .none, .no, .no]) r mpD (fun ys ρ => ∃ (f : Nat) (ad : D) (a : Bool) (x : Sl) (y : Sl), ρ = [.sh (mrD r), .sh (natK line), .sh (natK f), .sh ad, x, y] ∧ (∀ zs, r = ys ++ zs → f + inkN line a zs = inkN line false r) ∧ eqF ad (.str ⟨#[115, 116, 114, 105, 107, 101]⟩) = some a) (by simp [mrD]) ⟨0, .none, false, .no, .no, rfl, fun zs e => by rw [e]; simp, by decide +kernel⟩ ?_ ?_
  · rintro ys ⟨k, w⟩ zs ρ' hl2 ⟨f, ad, a, x, y, rfl, hf, ha⟩
    have hf := hf _ hl2
    refine ⟨[.sh (mrD r), .sh (natK line), .sh (natK f), .sh ad, .sh (.str (kdS k)), .sh (.str w)], rfl, ?_⟩
    have fin : ∀ z zs', r = ys ++ [z] ++ zs' → r = ys ++ (k, w) :: zs → z = (k, w) → zs' = zs := fun z zs' h1 h2 h3 => by
      subst h3
      rw [h1, List.append_assoc] at h2
      have := List.append_cancel_left h2
      exact List.append_cancel_left (as := [_]) this
    have done : ∀ g : Nat, g + inkN line (decide (k = .strike)) zs = inkN line false r → Run (evF tab n) (.cons (.asg (.nm 3) false (.var 4)) .nil) [.sh (mrD r), .sh (natK line), .sh (natK g), .sh ad, .sh (.str (kdS k)), .sh (.str w)] fun fl => match fl with
        | .nx ρ'' => ∃ (f : Nat) (ad : D) (a : Bool) (x : Sl) (y : Sl), ρ'' = [.sh (mrD r), .sh (natK line), .sh (natK f), .sh ad, x, y] ∧ (∀ zs', r = ys ++ [(k, w)] ++ zs' → f + inkN line a zs' = inkN line false r) ∧ eqF ad (.str ⟨#[115, 116, 114, 105, 107, 101]⟩) = some a
        | .ct ρ'' => ∃ (f : Nat) (ad : D) (a : Bool) (x : Sl) (y : Sl), ρ'' = [.sh (mrD r), .sh (natK line), .sh (natK f), .sh ad, x, y] ∧ (∀ zs', r = ys ++ [(k, w)] ++ zs' → f + inkN line a zs' = inkN line false r) ∧ eqF ad (.str ⟨#[115, 116, 114, 105, 107, 101]⟩) = some a
        | .bk _ => False
        | .rt d ρ'' => ∃ ρ', Fl.rt d ρ'' = .rt (natK (inkN line false r)) ρ' ∧ outSl [false, false] ρ' = some [] := fun g hg => by
      refine run_nx (ρ' := [.sh (mrD r), .sh (natK line), .sh (natK g), .sh (.str (kdS k)), .sh (.str (kdS k)), .sh (.str w)]) (by simp) (run_nil ⟨g, _, decide (k = .strike), _, _, rfl, fun zs' h => ?_, by rw [eqSSw, kd_strike]⟩)
      rw [fin _ _ h hl2 rfl]
      exact hg
    have e1 : eqF (.str (kdS k)) (.str ⟨#[112, 117, 116]⟩) = some (decide (k = .put)) := by rw [eqSSw, kd_put]
    have e2 : eqF (.str (kdS k)) (.str ⟨#[115, 116, 114, 105, 107, 101]⟩) = some (decide (k = .strike)) := by rw [eqSSw, kd_strike]
    cases k with
    | put =>
      refine run_ite (k := true) (ρ' := [.sh (mrD r), .sh (natK line), .sh (natK f), .sh ad, .sh (.str (kdS .put)), .sh (.str w)]) (by
        generalize PyData.str (kdS .put) = kd at e1
        simp [e1]) (fun _ => ?_) fun q => nomatch q
      refine run_nx (ρ' := [.sh (mrD r), .sh (natK line), .sh (natK (f + (w.length + 1))), .sh ad, .sh (.str (kdS .put)), .sh (.str w)]) (by simp [natK]) (run_nil (done _ (by have hf : f + (w.length + 1 + inkN line (decide (Kd.put = .strike)) zs) = inkN line false r := hf; omega)))
    | strike =>
      refine run_ite (k := false) (ρ' := [.sh (mrD r), .sh (natK line), .sh (natK f), .sh ad, .sh (.str (kdS .strike)), .sh (.str w)]) (by
        generalize PyData.str (kdS .strike) = kd at e1
        simp [e1]) (fun q => nomatch q) fun _ => ?_
      refine run_ite (k := !a) (ρ' := [.sh (mrD r), .sh (natK line), .sh (natK f), .sh ad, .sh (.str (kdS .strike)), .sh (.str w)]) (by
        generalize PyData.str (kdS .strike) = kd at e2
        simp [e2, ha]) (fun hc => ?_) fun hc => ?_
      · have : a = false := by simpa using hc
        subst this
        refine run_nx (ρ' := [.sh (mrD r), .sh (natK line), .sh (natK (f + line)), .sh ad, .sh (.str (kdS .strike)), .sh (.str w)]) (by simp [natK]) (run_nil (run_nil (done _ (by have hf : f + (line + inkN line (decide (Kd.strike = .strike)) zs) = inkN line false r := hf; omega))))
      · have : a = true := by simpa using hc
        subst this
        exact run_nil (run_nil (done _ (by have hf : f + (0 + inkN line (decide (Kd.strike = .strike)) zs) = inkN line false r := hf; omega)))
    | keep =>
      refine run_ite (k := false) (ρ' := [.sh (mrD r), .sh (natK line), .sh (natK f), .sh ad, .sh (.str (kdS .keep)), .sh (.str w)]) (by
        generalize PyData.str (kdS .keep) = kd at e1
        simp [e1]) (fun q => nomatch q) fun _ => ?_
      refine run_ite (k := false) (ρ' := [.sh (mrD r), .sh (natK line), .sh (natK f), .sh ad, .sh (.str (kdS .keep)), .sh (.str w)]) (by
        generalize PyData.str (kdS .keep) = kd at e2
        simp [e2]) (fun q => nomatch q) fun _ => run_nil (run_nil (done _ (by have hf : f + (0 + inkN line (decide (Kd.keep = .strike)) zs) = inkN line false r := hf; omega)))
  · rintro ρ' ⟨f, ad, a, x, y, rfl, hf, ha⟩
    have := hf [] (by rw [List.append_nil])
    rw [← this]
    exact run_rt (by simp; exact rfl) ⟨_, rfl, rfl⟩
end K24
end

section
namespace K24
open PySem DV
def putSum (r : Row) : Nat := ((r.filter fun p => decide (p.1 = .put)).map fun p => p.2.length + 1).sum
def startN : Bool → Row → Nat
  | _, [] => 0
  | a, (k, _) :: r => (if k = .strike ∧ a = false then 1 else 0) + startN (decide (k = .strike)) r
def endS : Bool → Row → Bool
  | a, [] => a
  | _, (k, _) :: r => endS (decide (k = .strike)) r
theorem ink_split (line : Nat) : ∀ (r : Row) (a : Bool), inkN line a r = putSum r + line * startN a r
  | [], a => by simp [inkN, putSum, startN]
  | (.put, w) :: r, a => by
    have ih := ink_split line r false
    have e1 : inkN line a ((.put, w) :: r) = w.length + 1 + inkN line false r := rfl
    have e2 : startN a ((.put, w) :: r) = 0 + startN false r := rfl
    have e3 : putSum ((Kd.put, w) :: r) = w.length + 1 + putSum r := by
      unfold putSum
      rw [List.filter_cons, if_pos (by simp), List.map_cons, List.sum_cons]
    rw [e1, e2, e3, ih, Nat.zero_add]
    omega
  | (.strike, w) :: r, a => by
    have ih := ink_split line r true
    have e1 : inkN line a ((.strike, w) :: r) = (if a then 0 else line) + inkN line true r := rfl
    have e2 : startN a ((.strike, w) :: r) = (if Kd.strike = .strike ∧ a = false then 1 else 0) + startN true r := rfl
    have e3 : putSum ((Kd.strike, w) :: r) = putSum r := by
      unfold putSum
      rw [List.filter_cons, if_neg (by simp)]
    rw [e1, e2, e3, ih, Nat.mul_add]
    cases a
    · simp; omega
    · simp
  | (.keep, w) :: r, a => by
    have ih := ink_split line r false
    have e1 : inkN line a ((.keep, w) :: r) = 0 + inkN line false r := rfl
    have e2 : startN a ((.keep, w) :: r) = 0 + startN false r := rfl
    have e3 : putSum ((Kd.keep, w) :: r) = putSum r := by
      unfold putSum
      rw [List.filter_cons, if_neg (by simp)]
    rw [e1, e2, e3, ih, Nat.zero_add, Nat.zero_add]
theorem start_app : ∀ (l : Row) (x : Kd × Str) (a : Bool), startN a (l ++ [x]) = startN a l + (if x.1 = .strike ∧ endS a l = false then 1 else 0)
  | [], x, a => by
    obtain ⟨k, w⟩ := x
    show (if k = .strike ∧ a = false then 1 else 0) + 0 = 0 + _
    rw [Nat.add_zero, Nat.zero_add]
    rfl
  | (k, w) :: l, x, a => by
    show (if k = .strike ∧ a = false then 1 else 0) + startN (decide (k = .strike)) (l ++ [x]) = (if k = .strike ∧ a = false then 1 else 0) + startN (decide (k = .strike)) l + _
    rw [start_app l x, Nat.add_assoc]
    rfl
theorem end_app : ∀ (l : Row) (x : Kd × Str) (a : Bool), endS a (l ++ [x]) = decide (x.1 = .strike)
  | [], x, a => rfl
  | (k, w) :: l, x, a => end_app l x _
/-- where a strike begins -/
def startP (r : Row) (k : Nat) : Bool := decide ((r.getD k (.keep, ⟨#[]⟩)).1 = .strike) && (decide (k = 0) || !decide ((r.getD (k - 1) (.keep, ⟨#[]⟩)).1 = .strike))
theorem start_count (r : Row) : ((List.range r.length).filter (startP r)).length = startN false r := by
  have key : ∀ m, m ≤ r.length → ((List.range m).filter (startP r)).length = startN false (r.take m) := by
    intro m
    induction m with
    | zero => intro _; rfl
    | succ m ih =>
      intro hm
      have hx : r.take (m + 1) = r.take m ++ [r.getD m (.keep, ⟨#[]⟩)] := by
        rw [List.take_add_one, List.getD_eq_getElem?_getD, List.getElem?_eq_getElem (by omega)]
        rfl
      rw [List.range_succ, List.filter_append, List.length_append, ih (by omega), hx, start_app]
      congr 1
      have he : endS false (r.take m) = !(decide (m = 0) || !decide ((r.getD (m - 1) (.keep, ⟨#[]⟩)).1 = .strike)) := by
        cases m with
        | zero => rfl
        | succ m' =>
          have hx2 : r.take (m' + 1) = r.take m' ++ [r.getD m' (.keep, ⟨#[]⟩)] := by
            rw [List.take_add_one, List.getD_eq_getElem?_getD, List.getElem?_eq_getElem (by omega)]
            rfl
          rw [hx2, end_app, Nat.add_sub_cancel]
          simp
      have hp : startP r m = decide ((r.getD m (.keep, ⟨#[]⟩)).1 = .strike ∧ endS false (r.take m) = false) := by
        unfold startP
        rw [he]
        generalize r.getD m (.keep, ⟨#[]⟩) = kk
        by_cases c : kk.1 = .strike
        · rw [decide_eq_true c, Bool.true_and]
          cases (decide (m = 0) || !decide ((r.getD (m - 1) (.keep, ⟨#[]⟩)).1 = .strike)) <;> simp [c]
        · rw [decide_eq_false c, Bool.false_and]
          exact (decide_eq_false fun q => c q.1).symm
      rw [List.filter_cons, hp]
      by_cases c : (r.getD m (.keep, ⟨#[]⟩)).1 = .strike ∧ endS false (r.take m) = false
      · rw [if_pos (decide_eq_true c), if_pos c]
        rfl
      · rw [if_neg (by rw [decide_eq_false c]; decide), if_neg c]
        rfl
  have := key r.length (Nat.le_refl _)
  rw [List.take_length] at this
  exact this
theorem ints_of (ns : List Int) : intsOf (ns.map .int) = some ns := by
  induction ns with
  | nil => rfl
  | cons n ns ih =>
    show (intsOf (ns.map .int)).map (n :: ·) = _
    rw [ih]
    rfl
theorem nats_of (ns : List Nat) : intsOf (ns.map natK) = some (ns.map fun k : Nat => (k : Int)) := by
  have := ints_of (ns.map fun k : Nat => (k : Int))
  rw [List.map_map] at this
  exact this
theorem sum_cast : ∀ ps : List Nat, (ps.map fun k : Nat => (k : Int)).sum = ((ps.sum : Nat) : Int)
  | [] => rfl
  | p :: ps => by
    rw [List.map_cons, List.sum_cons, List.sum_cons, sum_cast ps]
    omega
theorem sum_nats (ps : List Nat) : primF .sum [.list (ps.map natK)] = some (natK ps.sum) := by
  show ((intsOf (ps.map natK)).map fun ns => PyData.int ns.sum) = _
  rw [nats_of]
  show some (PyData.int (ps.map fun k : Nat => (k : Int)).sum) = _
  rw [sum_cast]
  rfl
theorem at_mr {r : Row} {k : Nat} (h : k < r.length) : L2.atI (r.map mpD) (k : Int) = some (mpD (r.getD k (.keep, ⟨#[]⟩))) := atI_nat (by rw [List.getElem?_map, List.getD_eq_getElem?_getD, List.getElem?_eq_getElem h]; rfl)
theorem lawink_ok {n line : Nat} {r : Row} (hl : r.length ≤ 1000) (hline : line ≤ 1000) : evF tab (n + 1) 19 [mrD r, natK line] = some (natK (inkN line false r), []) := by
  refine call_eq (fi := fi19) rfl [.sh (mrD r), .sh (natK line)] rfl ?_
  show Run _ fi19.body [.sh (mrD r), .sh (natK line), .no, .no, .no, .no] _
  unfold fi19
  have hsl : 2000000 ≤ sizeLine := by rw [sizeLine_eq]; decide
  have e : evE (evF tab n) (.comp [3, 4] (.tp (.cons (.nm 3) (.cons (.nm 4) .nil))) (.val (.var 0)) (.cons (.prim (.cmp .Eq) (.cons (.var 3) (.cons (.con (.str ⟨#[112, 117, 116]⟩)) .nil))) .nil) (.prim (.bin .Add) (.cons (.prim .len (.cons (.var 4) .nil)) (.cons (.con (.int 1)) .nil)))) [.sh (mrD r), .sh (natK line), .no, .no, .no, .no] = some (.list (((r.filter fun p => decide (p.1 = .put)).map fun p => p.2.length + 1).map natK), [.sh (mrD r), .sh (natK line), .no, .no, .no, .no]) := by
    rw [List.map_map]
    refine comp_fm r mpD _ _ (by simp [mrD]) rfl (by omega) fun p hp => ⟨[.sh (mrD r), .sh (natK line), .no, .sh (.str (kdS p.1)), .sh (.str p.2), .no], by exact rfl, by exact rfl, ?_, fun _ => by simp [natK]⟩
    have := kd_put p.1
    have e2 : eqF (.str (kdS p.1)) (.str ⟨#[112, 117, 116]⟩) = some (decide (p.1 = .put)) := by rw [eqSSw, this]
    generalize mrD r = md
    generalize PyData.str (kdS p.1) = kd at e2
    simp [e2]
  have ss := sum_nats ((r.filter fun p => decide (p.1 = .put)).map fun p => p.2.length + 1)
  refine run_nx (ρ' := [.sh (mrD r), .sh (natK line), .sh (natK (putSum r)), .no, .no, .no]) (by
    rw [ex_asg, ev_prim, ops_comp, e]
    show ((primF .sum [.list (((r.filter fun p => decide (p.1 = .put)).map fun p => p.2.length + 1).map natK)]).map fun d => _).map _ = _
    rw [ss]
    rfl) ?_
  have rl : rngIn (r.length : Int) = true := by unfold rngIn; exact decide_eq_true (by omega)
  have lm : lenF (mrD r) = some (.int r.length) := by
    show some (PyData.int ((r.map mpD).length : Nat)) = _
    rw [List.length_map]
  have e2 : evE (evF tab n) (.comp [5] (.nm 5) (.rng (.cons (.prim .len (.cons (.var 0) .nil)) .nil)) (.cons (.and (.prim (.cmp .Eq) (.cons (.prim .ix (.cons (.prim .ix (.cons (.var 0) (.cons (.var 5) .nil))) (.cons (.con (.int 0)) .nil))) (.cons (.con (.str ⟨#[115, 116, 114, 105, 107, 101]⟩)) .nil))) (.or (.prim (.cmp .Eq) (.cons (.var 5) (.cons (.con (.int 0)) .nil))) (.prim (.cmp .NotEq) (.cons (.prim .ix (.cons (.prim .ix (.cons (.var 0) (.cons (.prim (.bin .Sub) (.cons (.var 5) (.cons (.con (.int 1)) .nil))) .nil))) (.cons (.con (.int 0)) .nil))) (.cons (.con (.str ⟨#[115, 116, 114, 105, 107, 101]⟩)) .nil))))) .nil) (.var 5)) [.sh (mrD r), .sh (natK line), .sh (natK (putSum r)), .no, .no, .no] = some (.list (((List.range r.length).filter (startP r)).map natK), [.sh (mrD r), .sh (natK line), .sh (natK (putSum r)), .no, .no, .no]) := by
    refine comp_fm (List.range r.length) natK _ natK (by simp [lm, rl]; exact rangeI_up _) rfl (by rw [List.length_range]; omega) fun k hk => ⟨_, by exact rfl, by exact rfl, ?_, fun _ => by simp [wipeR]⟩
    have hk := List.mem_range.mp hk
    have a1 := at_mr hk
    have nm : mrD r = .tuple (r.map mpD) := rfl
    unfold startP
    have a0 : ∀ p : Kd × Str, L2.atI [PyData.str (kdS p.1), .str p.2] 0 = some (.str (kdS p.1)) := fun p => rfl
    have q1 : ∀ p : Kd × Str, eqF (.str (kdS p.1)) (.str ⟨#[115, 116, 114, 105, 107, 101]⟩) = some (decide (p.1 = .strike)) := fun p => by rw [eqSSw, kd_strike]
    by_cases c0 : k = 0
    · subst c0
      have a1 : L2.atI (r.map mpD) 0 = some (mpD (r.getD 0 (.keep, ⟨#[]⟩))) := a1
      generalize r.getD 0 (.keep, ⟨#[]⟩) = p at a1
      have b0 := a0 p
      have b1 := q1 p
      generalize r.map mpD = L at a1 nm
      have mp : mpD p = .tuple [.str (kdS p.1), .str p.2] := rfl
      generalize PyData.str (kdS p.1) = kd at b0 b1 mp
      cases hc : decide (p.1 = .strike) with
      | true => rw [hc] at b1; simp [wipeR, nm, natK, a1, mp, b0, b1]
      | false => rw [hc] at b1; simp [wipeR, nm, natK, a1, mp, b0, b1]
    · have a2 := at_mr (r := r) (k := k - 1) (by omega)
      have ek : ((k - 1 : Nat) : Int) = (k : Int) - 1 := by omega
      rw [ek] at a2
      generalize r.getD k (.keep, ⟨#[]⟩) = p at a1
      generalize r.getD (k - 1) (.keep, ⟨#[]⟩) = p2 at a2
      have b0 := a0 p
      have b1 := q1 p
      have d0 := a0 p2
      have d1 := q1 p2
      have mp : mpD p = .tuple [.str (kdS p.1), .str p.2] := rfl
      have mp2 : mpD p2 = .tuple [.str (kdS p2.1), .str p2.2] := rfl
      generalize r.map mpD = L at a1 a2 nm
      have ck : ¬ (k : Int) = 0 := by omega
      rw [decide_eq_false c0]
      generalize PyData.str (kdS p.1) = kd at b0 b1 mp
      generalize PyData.str (kdS p2.1) = kd2 at d0 d1 mp2
      cases hc : decide (p.1 = .strike) with
      | true => rw [hc] at b1; simp [wipeR, nm, natK, a1, a2, mp, mp2, b0, b1, d0, d1, ck, c0]
      | false => rw [hc] at b1; simp [wipeR, nm, natK, a1, mp, b0, b1]
  rw [ink_split, ← start_count]
  have sl : small (line : Int) = true := by unfold small; exact decide_eq_true (by omega)
  generalize (List.range r.length).filter (startP r) = F at e2
  have lF : lenF (.list (F.map natK)) = some (.int F.length) := by
    show some (PyData.int ((F.map natK).length : Nat)) = _
    rw [List.length_map]
  refine run_rt (r := (natK (putSum r + line * F.length), [.sh (mrD r), .sh (natK line), .sh (natK (putSum r)), .no, .no, .no])) ?_ ⟨_, rfl, rfl⟩
  generalize mrD r = md at e2
  generalize PyData.list (F.map natK) = FL at e2 lF
  simp [e2, lF, natK, sl] at e2 ⊢
end K24
end

section
namespace K24
open PySem DV
abbrev St := StT Str
def stD (s : St) : D := .tuple [mrD s.1, natK s.2.1, natK s.2.2]
theorem mp_al (p : Kd × Str) : alD (mpD p) = true ∧ dpD (mpD p) ≤ 1 := ⟨rfl, by show (1 : Nat) ≤ 1; omega⟩
theorem mr_al {r : Row} (h : r.length ≤ 1000) : alD (mrD r) = true ∧ dpD (mrD r) ≤ 2 := by
  obtain ⟨a, b⟩ := al_map (f := mpD) (n := 1) r fun p _ => mp_al p
  refine ⟨?_, ?_⟩
  · show (alDs (r.map mpD) && decide ((r.map mpD).length ≤ 1000000)) = true
    rw [a, List.length_map, decide_eq_true (by omega)]
    rfl
  · show dpDs (r.map mpD) + 1 ≤ 2
    omega
theorem st_al {s : St} (h : s.1.length ≤ 1000) : alD (stD s) = true ∧ dpD (stD s) ≤ 3 := by
  obtain ⟨a, b⟩ := mr_al h
  refine ⟨?_, ?_⟩
  · show ((alD (mrD s.1) && (true && (true && true))) && decide (3 ≤ 1000000)) = true
    rw [a]
    rfl
  · show max (dpD (mrD s.1)) (max 0 (max 0 0)) + 1 ≤ 3
    omega
mutual
theorem al_noMut : ∀ d : D, alD d = true → noMut d = true
  | .none, _ => rfl
  | .bool _, _ => rfl
  | .int _, _ => rfl
  | .str _, _ => rfl
  | .list _, h => nomatch h
  | .dict _, h => nomatch h
  | .tuple xs, h => by
    have h : (alDs xs && decide (xs.length ≤ 1000000)) = true := h
    rw [Bool.and_eq_true] at h
    exact als_noMut xs h.1
theorem als_noMut : ∀ xs : List D, alDs xs = true → noMutAll xs = true
  | [], _ => rfl
  | x :: xs, h => by
    have h : (alD x && alDs xs) = true := h
    rw [Bool.and_eq_true] at h
    show (noMut x && noMutAll xs) = true
    rw [al_noMut x h.1, als_noMut xs h.2]
    rfl
end
theorem add_row {row : Row} (h : row.length ≤ 1000) (k : Kd) (x : Str) : addF (mrD row) (.tuple [.tuple [.str (kdS k), .str x]]) = some (mrD (row ++ [(k, x)])) := by
  show (if (row.map mpD).length + 1 ≤ sizeLine then some (PyData.tuple (row.map mpD ++ [.tuple [.str (kdS k), .str x]])) else none) = _
  rw [if_pos (by rw [List.length_map, sizeLine_eq]; omega)]
  unfold mrD
  rw [List.map_append]
  rfl
def laO (old new : List Str) (rows : D) (found : List Row) (longer : List St) (row : Row) (i j : Nat) : Ro := [.sh (strT old), .sh (strT new), .sh rows, .ow (.list (found.map mrD)), .ow (.list (longer.map stD)), .sh (mrD row), .sh (natK i), .sh (natK j)]
def oneS (o : Option Str) (f : Str → St) : List St := match o with
  | some x => [f x]
  | none => []
def keepS (o p : Option Str) (f : Str → St) : List St := match o, p with
  | some x, some y => if x = y then [f x] else []
  | _, _ => []
theorem succ_parts (old new : List Str) (row : Row) (i j : Nat) : succS old new (row, i, j) = oneS old[i]? (fun x => (row ++ [(.strike, x)], i + 1, j)) ++ (oneS new[j]? (fun y => (row ++ [(.put, y)], i, j + 1)) ++ keepS old[i]? new[j]? (fun x => (row ++ [(.keep, x)], i + 1, j + 1))) := by
  unfold succS oneS keepS
  dsimp only
  cases old[i]? with
  | none => cases new[j]? <;> rfl
  | some x =>
    cases new[j]? with
    | none => rfl
    | some y =>
      by_cases c : x = y
      · simp [c]
      · simp [c]
theorem la_done {C : Call} {P : Fl → Prop} {ss : ISs} {old new : List Str} {rows : D} {found : List Row} {longer : List St} {row : Row} {i j : Nat} (hf : found.length ≤ 100000) (h : Run C ss (laO old new rows (found ++ compS old new (row, i, j)) longer row i j) P) :
    Run C (.cons (.iff (.and (.prim (.cmp .Eq) (.cons (.var 6) (.cons (.prim .len (.cons (.var 0) .nil)) .nil))) (.prim (.cmp .Eq) (.cons (.var 7) (.cons (.prim .len (.cons (.var 1) .nil)) .nil)))) (.cons (.exp (.mut .append 3 (.cons (.var 5) .nil))) .nil) .nil) ss) (laO old new rows found longer row i j) P := by
  have hsl : 2000000 ≤ sizeLine := by rw [sizeLine_eq]; decide
  have l1 := len_strT old
  have l2 := len_strT new
  refine run_iteI (k := decide (i = old.length ∧ j = new.length)) (ρ' := laO old new rows found longer row i j) (fun ρ => ρ = laO old new rows (found ++ compS old new (row, i, j)) longer row i j) ?_ (fun hc => ?_) (fun hc => ?_) (fun ρ e => e ▸ h)
  · generalize longer.map stD = L
    by_cases ci : i = old.length
    · have d1 : (i : Int) = old.length := by omega
      by_cases cj : j = new.length
      · have d2 : (j : Int) = new.length := by omega
        rw [decide_eq_true ⟨ci, cj⟩]
        simp [laO, natK, l1, l2, d1, d2]
      · have d2 : ¬ (j : Int) = new.length := by omega
        rw [decide_eq_false (fun q => cj q.2)]
        simp [laO, natK, l1, l2, d1, d2]
    · have d1 : ¬ (i : Int) = old.length := by omega
      rw [decide_eq_false (fun q => ci q.1)]
      simp [laO, natK, l1, d1]
  · have hc := of_decide_eq_true hc
    have e : compS old new (row, i, j) = [row] := if_pos hc
    rw [e]
    refine run_nx (ρ' := laO old new rows (found ++ [row]) longer row i j) ?_ (run_nil ⟨_, rfl, rfl⟩)
    have hz : (found.map mrD).length < sizeLine := by rw [List.length_map]; omega
    unfold laO
    rw [List.map_append]
    generalize found.map mrD = L at hz ⊢
    generalize longer.map stD = L2
    simp [hz]
  · have hc := of_decide_eq_false hc
    have e : compS old new (row, i, j) = [] := if_neg hc
    rw [e, List.append_nil]
    exact run_nil ⟨_, rfl, rfl⟩
theorem la_strike {C : Call} {P : Fl → Prop} {ss : ISs} {old new : List Str} {rows : D} {found : List Row} {longer : List St} {row : Row} {i j : Nat} (hr : row.length ≤ 1000) (hf : longer.length ≤ 100000) (h : Run C ss (laO old new rows found (longer ++ oneS old[i]? (fun x => (row ++ [(.strike, x)], i + 1, j))) row i j) P) :
    Run C (.cons (.iff (.prim (.cmp .Lt) (.cons (.var 6) (.cons (.prim .len (.cons (.var 0) .nil)) .nil))) (.cons (.exp (.mut .append 4 (.cons (.tup (.cons (.prim (.bin .Add) (.cons (.var 5) (.cons (.tup (.cons (.tup (.cons (.con (.str ⟨#[115, 116, 114, 105, 107, 101]⟩)) (.cons (.prim .ix (.cons (.var 0) (.cons (.var 6) .nil))) .nil))) .nil)) .nil))) (.cons (.prim (.bin .Add) (.cons (.var 6) (.cons (.con (.int 1)) .nil))) (.cons (.var 7) .nil)))) .nil))) .nil) .nil) ss) (laO old new rows found longer row i j) P := by
  have hsl : 2000000 ≤ sizeLine := by rw [sizeLine_eq]; decide
  have l1 := len_strT old
  refine run_iteI (k := decide (i < old.length)) (ρ' := laO old new rows found longer row i j) (fun ρ => ρ = laO old new rows found (longer ++ oneS old[i]? (fun x => (row ++ [(.strike, x)], i + 1, j))) row i j) ?_ (fun hc => ?_) (fun hc => ?_) (fun ρ e => e ▸ h)
  · have : ((i : Int) < old.length) = (i < old.length) := by apply propext; omega
    generalize longer.map stD = L
    simp [laO, natK, l1, this]
  · have hc := of_decide_eq_true hc
    have e : oneS old[i]? (fun x => (row ++ [(Kd.strike, x)], i + 1, j)) = [(row ++ [(.strike, old[i])], i + 1, j)] := by rw [List.getElem?_eq_getElem hc]; rfl
    have a := at_strT (List.getElem?_eq_getElem hc)
    have ad := add_row hr .strike old[i]
    have ai : addF (natK i) (.int 1) = some (natK (i + 1)) := rfl
    rw [e]
    refine run_nx (ρ' := laO old new rows found (longer ++ [(row ++ [(.strike, old[i])], i + 1, j)]) row i j) ?_ (run_nil ⟨_, rfl, rfl⟩)
    have hz : (longer.map stD).length < sizeLine := by rw [List.length_map]; omega
    have ad : addF (mrD row) (.tuple [.tuple [.str ⟨#[115, 116, 114, 105, 107, 101]⟩, .str old[i]]]) = some (mrD (row ++ [(.strike, old[i])])) := ad
    unfold laO
    rw [List.map_append]
    generalize longer.map stD = L at hz ⊢
    generalize old[i] = x at *
    generalize hm : mrD (row ++ [(Kd.strike, x)]) = m at *
    generalize natK i = ki at *
    simp [hz, a, ad, ai, stD, hm]
  · have hc := of_decide_eq_false hc
    have e : oneS old[i]? (fun x => (row ++ [(Kd.strike, x)], i + 1, j)) = [] := by rw [List.getElem?_eq_none (by omega)]; rfl
    rw [e, List.append_nil]
    exact run_nil ⟨_, rfl, rfl⟩
theorem la_put {C : Call} {P : Fl → Prop} {ss : ISs} {old new : List Str} {rows : D} {found : List Row} {longer : List St} {row : Row} {i j : Nat} (hr : row.length ≤ 1000) (hf : longer.length ≤ 100000) (h : Run C ss (laO old new rows found (longer ++ oneS new[j]? (fun x => (row ++ [(.put, x)], i, j + 1))) row i j) P) :
    Run C (.cons (.iff (.prim (.cmp .Lt) (.cons (.var 7) (.cons (.prim .len (.cons (.var 1) .nil)) .nil))) (.cons (.exp (.mut .append 4 (.cons (.tup (.cons (.prim (.bin .Add) (.cons (.var 5) (.cons (.tup (.cons (.tup (.cons (.con (.str ⟨#[112, 117, 116]⟩)) (.cons (.prim .ix (.cons (.var 1) (.cons (.var 7) .nil))) .nil))) .nil)) .nil))) (.cons (.var 6) (.cons (.prim (.bin .Add) (.cons (.var 7) (.cons (.con (.int 1)) .nil))) .nil)))) .nil))) .nil) .nil) ss) (laO old new rows found longer row i j) P := by
  have hsl : 2000000 ≤ sizeLine := by rw [sizeLine_eq]; decide
  have l1 := len_strT new
  refine run_iteI (k := decide (j < new.length)) (ρ' := laO old new rows found longer row i j) (fun ρ => ρ = laO old new rows found (longer ++ oneS new[j]? (fun x => (row ++ [(.put, x)], i, j + 1))) row i j) ?_ (fun hc => ?_) (fun hc => ?_) (fun ρ e => e ▸ h)
  · have : ((j : Int) < new.length) = (j < new.length) := by apply propext; omega
    generalize longer.map stD = L
    simp [laO, natK, l1, this]
  · have hc := of_decide_eq_true hc
    have e : oneS new[j]? (fun x => (row ++ [(Kd.put, x)], i, j + 1)) = [(row ++ [(.put, new[j])], i, j + 1)] := by rw [List.getElem?_eq_getElem hc]; rfl
    have a := at_strT (List.getElem?_eq_getElem hc)
    have ad := add_row hr .put new[j]
    have ai : addF (natK j) (.int 1) = some (natK (j + 1)) := rfl
    rw [e]
    refine run_nx (ρ' := laO old new rows found (longer ++ [(row ++ [(.put, new[j])], i, j + 1)]) row i j) ?_ (run_nil ⟨_, rfl, rfl⟩)
    have hz : (longer.map stD).length < sizeLine := by rw [List.length_map]; omega
    have ad : addF (mrD row) (.tuple [.tuple [.str ⟨#[112, 117, 116]⟩, .str new[j]]]) = some (mrD (row ++ [(.put, new[j])])) := ad
    unfold laO
    rw [List.map_append]
    generalize longer.map stD = L at hz ⊢
    generalize new[j] = x at *
    generalize hm : mrD (row ++ [(Kd.put, x)]) = m at *
    generalize natK j = ki at *
    simp [hz, a, ad, ai, stD, hm]
  · have hc := of_decide_eq_false hc
    have e : oneS new[j]? (fun x => (row ++ [(Kd.put, x)], i, j + 1)) = [] := by rw [List.getElem?_eq_none (by omega)]; rfl
    rw [e, List.append_nil]
    exact run_nil ⟨_, rfl, rfl⟩
theorem la_keep {C : Call} {P : Fl → Prop} {ss : ISs} {old new : List Str} {rows : D} {found : List Row} {longer : List St} {row : Row} {i j : Nat} (hr : row.length ≤ 1000) (hf : longer.length ≤ 100000) (h : Run C ss (laO old new rows found (longer ++ keepS old[i]? new[j]? (fun x => (row ++ [(.keep, x)], i + 1, j + 1))) row i j) P) :
    Run C (.cons (.iff (.and (.prim (.cmp .Lt) (.cons (.var 6) (.cons (.prim .len (.cons (.var 0) .nil)) .nil))) (.and (.prim (.cmp .Lt) (.cons (.var 7) (.cons (.prim .len (.cons (.var 1) .nil)) .nil))) (.prim (.cmp .Eq) (.cons (.prim .ix (.cons (.var 0) (.cons (.var 6) .nil))) (.cons (.prim .ix (.cons (.var 1) (.cons (.var 7) .nil))) .nil))))) (.cons (.exp (.mut .append 4 (.cons (.tup (.cons (.prim (.bin .Add) (.cons (.var 5) (.cons (.tup (.cons (.tup (.cons (.con (.str ⟨#[107, 101, 101, 112]⟩)) (.cons (.prim .ix (.cons (.var 0) (.cons (.var 6) .nil))) .nil))) .nil)) .nil))) (.cons (.prim (.bin .Add) (.cons (.var 6) (.cons (.con (.int 1)) .nil))) (.cons (.prim (.bin .Add) (.cons (.var 7) (.cons (.con (.int 1)) .nil))) .nil)))) .nil))) .nil) .nil) ss) (laO old new rows found longer row i j) P := by
  have hsl : 2000000 ≤ sizeLine := by rw [sizeLine_eq]; decide
  have l1 := len_strT old
  have l2 := len_strT new
  by_cases ci : i < old.length
  · by_cases cj : j < new.length
    · have a := at_strT (List.getElem?_eq_getElem ci)
      have b := at_strT (List.getElem?_eq_getElem cj)
      have q := eqSSw old[i] new[j]
      have d1 : ((i : Int) < old.length) = True := by simp; omega
      have d2 : ((j : Int) < new.length) = True := by simp; omega
      refine run_iteI (k := decide (old[i] = new[j])) (ρ' := laO old new rows found longer row i j) (fun ρ => ρ = laO old new rows found (longer ++ keepS old[i]? new[j]? (fun x => (row ++ [(.keep, x)], i + 1, j + 1))) row i j) ?_ (fun hc => ?_) (fun hc => ?_) (fun ρ e => e ▸ h)
      · have a' : ixF (strT old) (.int (i : Int)) = some (.str old[i]) := a
        have b' : ixF (strT new) (.int (j : Int)) = some (.str new[j]) := b
        generalize old[i] = x at *
        generalize new[j] = y at *
        generalize longer.map stD = L
        simp [laO, natK, l1, l2, d1, d2, a', b']
      · have hc := of_decide_eq_true hc
        have e : keepS old[i]? new[j]? (fun x => (row ++ [(Kd.keep, x)], i + 1, j + 1)) = [(row ++ [(.keep, old[i])], i + 1, j + 1)] := by
          rw [List.getElem?_eq_getElem ci, List.getElem?_eq_getElem cj]
          exact if_pos hc
        have ad := add_row hr .keep old[i]
        have ai : addF (natK i) (.int 1) = some (natK (i + 1)) := rfl
        have aj : addF (natK j) (.int 1) = some (natK (j + 1)) := rfl
        rw [e]
        refine run_nx (ρ' := laO old new rows found (longer ++ [(row ++ [(.keep, old[i])], i + 1, j + 1)]) row i j) ?_ (run_nil ⟨_, rfl, rfl⟩)
        have hz : (longer.map stD).length < sizeLine := by rw [List.length_map]; omega
        have ad : addF (mrD row) (.tuple [.tuple [.str ⟨#[107, 101, 101, 112]⟩, .str old[i]]]) = some (mrD (row ++ [(.keep, old[i])])) := ad
        unfold laO
        rw [List.map_append]
        generalize longer.map stD = L at hz ⊢
        clear b q hc e d1 d2
        generalize old[i] = x at *
        generalize hm : mrD (row ++ [(Kd.keep, x)]) = m at *
        generalize hi : natK (i + 1) = ki1 at *
        generalize hj : natK (j + 1) = kj1 at *
        generalize natK i = ki at *
        generalize natK j = kj at *
        simp [hz, a, ad, ai, aj, stD, hm, hi, hj]
      · have hc := of_decide_eq_false hc
        have e : keepS old[i]? new[j]? (fun x => (row ++ [(Kd.keep, x)], i + 1, j + 1)) = [] := by
          rw [List.getElem?_eq_getElem ci, List.getElem?_eq_getElem cj]
          exact if_neg hc
        rw [e, List.append_nil]
        exact run_nil ⟨_, rfl, rfl⟩
    · have e : keepS old[i]? new[j]? (fun x => (row ++ [(Kd.keep, x)], i + 1, j + 1)) = [] := by
        rw [List.getElem?_eq_getElem ci, List.getElem?_eq_none (show new.length ≤ j by omega)]
        rfl
      rw [e, List.append_nil] at h
      have d1 : ((i : Int) < old.length) = True := by simp; omega
      have d2 : ((j : Int) < new.length) = False := by simp; omega
      refine run_iteI (k := false) (ρ' := laO old new rows found longer row i j) (fun ρ => ρ = laO old new rows found longer row i j) ?_ (fun q => nomatch q) (fun _ => run_nil ⟨_, rfl, rfl⟩) (fun ρ e => e ▸ h)
      generalize longer.map stD = L
      simp [laO, natK, l1, l2, d1, d2]
  · have e : keepS old[i]? new[j]? (fun x => (row ++ [(Kd.keep, x)], i + 1, j + 1)) = [] := by
      rw [List.getElem?_eq_none (show old.length ≤ i by omega)]
      rfl
    rw [e, List.append_nil] at h
    have d1 : ((i : Int) < old.length) = False := by simp; omega
    refine run_iteI (k := false) (ρ' := laO old new rows found longer row i j) (fun ρ => ρ = laO old new rows found longer row i j) ?_ (fun q => nomatch q) (fun _ => run_nil ⟨_, rfl, rfl⟩) (fun ρ e => e ▸ h)
    generalize longer.map stD = L
    simp [laO, natK, l1, l2, d1]
theorem front_stop {old new : List Str} {k : Nat} (h : front old new k = []) : ∀ d, front old new (k + d) = [] ∧ doneL old new (k + d) = doneL old new k
  | 0 => ⟨h, rfl⟩
  | d + 1 => by
    obtain ⟨a, b⟩ := front_stop h d
    refine ⟨?_, ?_⟩
    · show (front old new (k + d)).flatMap _ = []
      rw [a]; rfl
    · show doneL old new (k + d) ++ (front old new (k + d)).flatMap _ = _
      rw [a, b]
      exact List.append_nil _
def allR (old new : List Str) : List Row := doneL old new (old.length + new.length + 1)
theorem allR_perm (old new : List Str) : (allR old new).Perm (rowsN old new 0 0) := by
  have dp := done_perm old new (old.length + new.length + 1)
  rw [front_end old new (Nat.lt_succ_self _)] at dp
  have dp : (allR old new ++ []).Perm (rowsN old new 0 0) := dp
  rw [List.append_nil] at dp
  exact dp
theorem allR_len {old new : List Str} (h1 : old.length ≤ 4) (h2 : new.length ≤ 4) : (allR old new).length ≤ 20000 := Nat.le_trans (done_len old new _) (Nat.le_trans (Nat.pow_le_pow_right (by decide) (show old.length + new.length + 1 ≤ 9 by omega)) (by decide))
theorem lawall_ok {n : Nat} {old new : List Str} (h1 : old.length ≤ 4) (h2 : new.length ≤ 4) : evF tab (n + 1) 20 [strT old, strT new] = some (.list ((allR old new).map mrD), []) := by
  refine call_eq (fi := fi20) rfl [.sh (strT old), .sh (strT new)] rfl ?_
  show Run _ fi20.body [.sh (strT old), .sh (strT new), .no, .no, .no, .no, .no, .no] _
  unfold fi20
  have hsl : 2000000 ≤ sizeLine := by rw [sizeLine_eq]; decide
  have p3 : ∀ k, k ≤ 9 → 3 ^ k ≤ 20000 := fun k hk => Nat.le_trans (Nat.pow_le_pow_right (by decide) hk) (by decide)
  refine run_nx (ρ' := [.sh (strT old), .sh (strT new), .sh (.list ((front old new 0).map stD)), .ow (.list ((doneL old new 0).map mrD)), .no, .no, .no, .no]) (by simp; exact ⟨rfl, rfl⟩) ?_
  refine run_while (fun m ρ => ∃ k x4 x5 x6 x7, ρ = [.sh (strT old), .sh (strT new), .sh (.list ((front old new k).map stD)), .ow (.list ((doneL old new k).map mrD)), x4, x5, x6, x7] ∧ k + m = old.length + new.length + 1) (fun ρ => ∃ k x4 x5 x6 x7, ρ = [.sh (strT old), .sh (strT new), .sh (.list ((front old new k).map stD)), .ow (.list ((doneL old new k).map mrD)), x4, x5, x6, x7] ∧ front old new k = [] ∧ k ≤ old.length + new.length + 1) (old.length + new.length + 1) (by omega) ⟨0, .no, .no, .no, .no, rfl, by omega⟩ ?_ ?_
  · rintro m ρ' ⟨k, x4, x5, x6, x7, rfl, hk⟩
    have fo := front_ok old new k
    obtain ⟨al1, al2⟩ := al_map (f := stD) (n := 3) (front old new k) fun s hs => st_al (by have := (fo s hs).2.2.2; omega)
    have hne : eqF (.list ((front old new k).map stD)) (.list []) = some (front old new k).isEmpty := by
      rw [eq_nilL (al_list al1 (by omega)), List.isEmpty_map]
    refine ⟨!(front old new k).isEmpty, [.sh (strT old), .sh (strT new), .sh (.list ((front old new k).map stD)), .ow (.list ((doneL old new k).map mrD)), x4, x5, x6, x7], ?_, fun hc => ?_, fun hc => ?_⟩
    · generalize (front old new k).map stD = L at hne ⊢
      simp [hne]
    · have hm : m ≠ 0 := by
        intro e
        rw [front_end old new (n := k) (by omega)] at hc
        cases hc
      have st : ∀ (found : List Row) (longer : List St) (a b c : Sl), ([.sh (strT old), .sh (strT new), .sh (.list ((front old new k).map stD)), .ow (.list (found.map mrD)), .ow (.list (longer.map stD)), a, b, c] : Ro) = [.sh (strT old), .sh (strT new), .sh (.list ((front old new k).map stD)), .ow (.list (found.map mrD)), .ow (.list (longer.map stD)), a, b, c] := fun _ _ _ _ _ => rfl
      refine run_nx (ρ' := [.sh (strT old), .sh (strT new), .sh (.list ((front old new k).map stD)), .ow (.list ((doneL old new k ++ ([] : List St).flatMap (compS old new)).map mrD)), .ow (.list ((([] : List St).flatMap (succS old new)).map stD)), x5, x6, x7]) (by simp) ?_
      refine run_forA (ρ' := [.sh (strT old), .sh (strT new), .sh (.list ((front old new k).map stD)), .ow (.list ((doneL old new k ++ ([] : List St).flatMap (compS old new)).map mrD)), .ow (.list ((([] : List St).flatMap (succS old new)).map stD)), x5, x6, x7]) (front old new k) stD (fun ys ρ => ∃ x5 x6 x7, ρ = [.sh (strT old), .sh (strT new), .sh (.list ((front old new k).map stD)), .ow (.list ((doneL old new k ++ ys.flatMap (compS old new)).map mrD)), .ow (.list ((ys.flatMap (succS old new)).map stD)), x5, x6, x7]) (by simp) ⟨x5, x6, x7, rfl⟩ ?_ ?_
      · rintro ys s zs ρ' hl ⟨x5, x6, x7, rfl⟩
        have hs := fo s (by rw [hl]; simp)
        obtain ⟨row, i, j⟩ := s
        have hrl : row.length ≤ 1000 := by have : row.length = k := hs.2.2.2; omega
        refine ⟨laO old new (.list ((front old new k).map stD)) (doneL old new k ++ ys.flatMap (compS old new)) (ys.flatMap (succS old new)) row i j, rfl, ?_⟩
        have fl1 := front_len old new (k + 1)
        have dl := done_len old new (k + 1)
        have p1 := p3 k (by omega)
        have p2 : 3 ^ (k + 1) ≤ 20000 := p3 (k + 1) (by omega)
        have c1 : (doneL old new k ++ ys.flatMap (compS old new) ++ compS old new (row, i, j)).length ≤ 20000 := by
          have : doneL old new (k + 1) = doneL old new k ++ (ys ++ (row, i, j) :: zs).flatMap (compS old new) := by rw [← hl]; rfl
          rw [this, List.flatMap_append, List.flatMap_cons] at dl
          simp only [List.length_append] at dl ⊢
          omega
        have c2 : (ys.flatMap (succS old new) ++ succS old new (row, i, j)).length ≤ 20000 := by
          have : front old new (k + 1) = (ys ++ (row, i, j) :: zs).flatMap (succS old new) := by rw [← hl]; rfl
          rw [this, List.flatMap_append, List.flatMap_cons] at fl1
          simp only [List.length_append] at fl1 ⊢
          omega
        have e1 : (ys ++ [((row, i, j) : St)]).flatMap (compS old new) = ys.flatMap (compS old new) ++ compS old new (row, i, j) := by rw [List.flatMap_append]; simp
        have e2 : (ys ++ [((row, i, j) : St)]).flatMap (succS old new) = ys.flatMap (succS old new) ++ succS old new (row, i, j) := by rw [List.flatMap_append]; simp
        rw [e1, e2, ← List.append_assoc]
        generalize doneL old new k ++ ys.flatMap (compS old new) = dn at c1 ⊢
        generalize ys.flatMap (succS old new) = sc at c2 ⊢
        rw [succ_parts] at c2 ⊢
        simp only [List.length_append] at c1 c2
        refine la_done (by omega) (la_strike hrl (by omega) (la_put hrl (by rw [List.length_append]; omega) (la_keep hrl (by rw [List.length_append, List.length_append]; omega) (run_nil ⟨.sh (mrD row), .sh (natK i), .sh (natK j), ?_⟩))))
        rw [List.append_assoc, List.append_assoc]
        rfl
      · rintro ρ' ⟨x5, x6, x7, rfl⟩
        refine run_nx (ρ' := [.sh (strT old), .sh (strT new), .sh (.list ((front old new (k + 1)).map stD)), .ow (.list ((doneL old new (k + 1)).map mrD)), .sh (.list ((front old new (k + 1)).map stD)), x5, x6, x7]) (by
          have e3 : doneL old new k ++ (front old new k).flatMap (compS old new) = doneL old new (k + 1) := rfl
          have e4 : (front old new k).flatMap (succS old new) = front old new (k + 1) := rfl
          rw [e3, e4]
          generalize (doneL old new (k + 1)).map mrD = dd
          generalize (front old new (k + 1)).map stD = ff
          generalize (front old new k).map stD = gg
          simp) (run_nil ⟨m - 1, by omega, k + 1, _, _, _, _, rfl, by omega⟩)
    · refine ⟨k, x4, x5, x6, x7, rfl, ?_, by omega⟩
      cases hf : front old new k with
      | nil => rfl
      | cons _ _ => rw [hf] at hc; cases hc
  · rintro ρ' ⟨k, x4, x5, x6, x7, rfl, hf, hk⟩
    have e : doneL old new k = allR old new := by
      obtain ⟨_, b⟩ := front_stop hf (old.length + new.length + 1 - k)
      rw [show k + (old.length + new.length + 1 - k) = old.length + new.length + 1 by omega] at b
      exact b.symm
    rw [e, hf]
    refine run_rt (r := (.list ((allR old new).map mrD), [.sh (strT old), .sh (strT new), .sh (.list []), .sh (.list ((allR old new).map mrD)), x4, x5, x6, x7])) ?_ ⟨_, rfl, rfl⟩
    generalize (allR old new).map mrD = L
    simp
end K24
end

section
namespace K24
open PySem DV
def cdD (x : Nat × Row) : D := .tuple [natK x.1, mrD x.2]
def ltP : Kd × Str → Kd × Str → Bool := pairB (fun a b => decide ((kdS a).cps.toList < (kdS b).cps.toList)) fun a b => decide (a.cps.toList < b.cps.toList)
def ltC : Nat × Row → Nat × Row → Bool := pairB (fun a b => decide (a < b)) (lexB ltP)
theorem do_p : DO mpD ltP 1 := (DO.str.comp kdS kd_inj).pair DO.str (n := 1) (by omega) (by omega)
theorem do_c : DO cdD ltC 3 := DO.nat.pair (do_p.tup (m := 2) (by omega)) (n := 3) (by omega) (by omega)
def leastO (l : List (Nat × Row)) : Option (Nat × Row) := match l with
  | [] => none
  | x :: xs => some (leastB ltC x xs)
theorem leastO_iff {l : List (Nat × Row)} {a : Nat × Row} : leastO l = some a ↔ a ∈ l ∧ ∀ y ∈ l, ltC y a = false := by
  cases l with
  | nil =>
    refine ⟨fun h => ?_, fun h => ?_⟩
    · cases h
    · cases h.1
  | cons x xs =>
    obtain ⟨h1, h2⟩ := leastB_ok do_c xs x
    constructor
    · intro h
      injection h with h
      rw [← h]
      exact ⟨h1, h2⟩
    · intro h
      show some _ = some a
      rw [least_one do_c h1 h.1 h2 h.2]
theorem leastO_some {l : List (Nat × Row)} (h : l ≠ []) : ∃ a, leastO l = some a := by
  cases l with
  | nil => exact absurd rfl h
  | cons x xs => exact ⟨_, rfl⟩
theorem leastO_perm {l m : List (Nat × Row)} (h : ∀ x, x ∈ l ↔ x ∈ m) : leastO l = leastO m := by
  cases hm : leastO m with
  | none =>
    cases l with
    | nil => rfl
    | cons x xs =>
      have := (h x).mp List.mem_cons_self
      cases m with
      | nil => cases this
      | cons _ _ => cases hm
  | some a =>
    obtain ⟨h1, h2⟩ := leastO_iff.mp hm
    exact leastO_iff.mpr ⟨(h a).mpr h1, fun y hy => h2 y ((h y).mp hy)⟩
theorem ltC_false {c1 c2 : Nat} {r1 r2 : Row} (o : Nat) (p : Kd × Str) (h : ltC (c1, r1) (c2, r2) = false) : ltC (o + c1, p :: r1) (o + c2, p :: r2) = false := by
  unfold ltC pairB at h ⊢
  rw [Bool.or_eq_false_iff] at h ⊢
  refine ⟨?_, ?_⟩
  · have := of_decide_eq_false h.1
    exact decide_eq_false (by omega)
  · have e : decide (o + c2 < o + c1) = decide (c2 < c1) := by
      by_cases c : c2 < c1
      · rw [decide_eq_true c, decide_eq_true (by omega)]
      · rw [decide_eq_false c, decide_eq_false (by omega)]
    show (!decide (o + c2 < o + c1) && lexB ltP (p :: r1) (p :: r2)) = false
    rw [e]
    have h2 : (!decide (c2 < c1) && lexB ltP r1 r2) = false := h.2
    have e2 : lexB ltP (p :: r1) (p :: r2) = lexB ltP r1 r2 := by
      show (ltP p p || (!ltP p p && lexB ltP r1 r2)) = _
      rw [do_p.irr]
      rfl
    rw [e2]
    exact h2
section
variable (old new : List Str) (line : Nat)
def allC (i j : Nat) (a : Bool) : List (Nat × Row) := (rowsN old new i j).map fun r => (inkN line a r, r)
def bestN (i j : Nat) (a : Bool) : Option (Nat × Row) := leastO (allC old new line i j a)
def candK (i j : Nat) : List (Nat × Row) := match old[i]?, new[j]? with
  | some x, some y => if x = y then (bestN old new line (i + 1) (j + 1) false).toList.map fun c => (c.1, (.keep, x) :: c.2) else []
  | _, _ => []
def candS (i j : Nat) (a : Bool) : List (Nat × Row) := match old[i]? with
  | some x => (bestN old new line (i + 1) j true).toList.map fun c => (c.1 + (if a then 0 else line), (.strike, x) :: c.2)
  | none => []
def candP (i j : Nat) : List (Nat × Row) := match new[j]? with
  | some y => (bestN old new line i (j + 1) false).toList.map fun c => (c.1 + y.length + 1, (.put, y) :: c.2)
  | none => []
def cands (i j : Nat) (a : Bool) : List (Nat × Row) := candK old new line i j ++ candS old new line i j a ++ candP old new line i j
theorem mem_all {i j : Nat} {a : Bool} {y : Nat × Row} : y ∈ allC old new line i j a ↔ y.2 ∈ rowsN old new i j ∧ y.1 = inkN line a y.2 := by
  unfold allC
  rw [List.mem_map]
  constructor
  · rintro ⟨r, hr, rfl⟩
    exact ⟨hr, rfl⟩
  · rintro ⟨h1, h2⟩
    exact ⟨y.2, h1, Prod.ext h2.symm rfl⟩
theorem best_some {i j : Nat} (a : Bool) (hi : i ≤ old.length) (hj : j ≤ new.length) : ∃ b, bestN old new line i j a = some b := by
  refine leastO_some fun e => ?_
  unfold allC at e
  exact rows_ne old new i j hi hj (List.map_eq_nil_iff.mp e)
theorem best_in {i j : Nat} {a : Bool} {b : Nat × Row} (h : bestN old new line i j a = some b) : b.2 ∈ rowsN old new i j ∧ b.1 = inkN line a b.2 := (mem_all old new line).mp (leastO_iff.mp h).1
theorem mem_cands {i j : Nat} {a : Bool} {x : Nat × Row} : x ∈ cands old new line i j a ↔ (∃ w c, old[i]? = some w ∧ new[j]? = some w ∧ bestN old new line (i + 1) (j + 1) false = some c ∧ x = (c.1, (.keep, w) :: c.2)) ∨ (∃ w c, old[i]? = some w ∧ bestN old new line (i + 1) j true = some c ∧ x = (c.1 + (if a then 0 else line), (.strike, w) :: c.2)) ∨ (∃ w c, new[j]? = some w ∧ bestN old new line i (j + 1) false = some c ∧ x = (c.1 + w.length + 1, (.put, w) :: c.2)) := by
  unfold cands
  rw [List.mem_append, List.mem_append, or_assoc]
  have hopt : ∀ (o : Option (Nat × Row)) (g : Nat × Row → Nat × Row), x ∈ o.toList.map g ↔ ∃ c, o = some c ∧ x = g c := by
    intro o g
    cases o with
    | none =>
      refine ⟨fun h => ?_, fun h => ?_⟩
      · cases h
      · obtain ⟨c, h, _⟩ := h
        cases h
    | some c =>
      show x ∈ [g c] ↔ _
      rw [List.mem_singleton]
      exact ⟨fun h => ⟨c, rfl, h⟩, fun ⟨c', h1, h2⟩ => by injection h1 with h1; rw [h2, h1]⟩
  refine or_congr ?_ (or_congr ?_ ?_)
  · unfold candK
    cases ho : old[i]? with
    | none =>
      refine ⟨fun h => ?_, fun ⟨w, c, h, _⟩ => ?_⟩
      · cases h
      · cases h
    | some u =>
      cases hn : new[j]? with
      | none =>
        refine ⟨fun h => ?_, fun ⟨w, c, _, h, _⟩ => ?_⟩
        · cases h
        · cases h
      | some v =>
        show x ∈ (if u = v then _ else []) ↔ _
        by_cases c : u = v
        · subst c
          rw [if_pos rfl, hopt]
          exact ⟨fun ⟨c, h1, h2⟩ => ⟨u, c, rfl, rfl, h1, h2⟩, fun ⟨w, c, h1, _, h2, h3⟩ => by injection h1 with h1; subst h1; exact ⟨c, h2, h3⟩⟩
        · rw [if_neg c]
          refine ⟨fun h => ?_, fun ⟨w, _, h1, h2, _⟩ => ?_⟩
          · cases h
          · injection h1 with h1
            injection h2 with h2
            exact absurd (h1.trans h2.symm) c
  · unfold candS
    cases ho : old[i]? with
    | none =>
      refine ⟨fun h => ?_, fun ⟨w, c, h, _⟩ => ?_⟩
      · cases h
      · cases h
    | some u =>
      rw [hopt]
      exact ⟨fun ⟨c, h1, h2⟩ => ⟨u, c, rfl, h1, h2⟩, fun ⟨w, c, h1, h2, h3⟩ => by injection h1 with h1; subst h1; exact ⟨c, h2, h3⟩⟩
  · unfold candP
    cases ho : new[j]? with
    | none =>
      refine ⟨fun h => ?_, fun ⟨w, c, h, _⟩ => ?_⟩
      · cases h
      · cases h
    | some u =>
      rw [hopt]
      exact ⟨fun ⟨c, h1, h2⟩ => ⟨u, c, rfl, h1, h2⟩, fun ⟨w, c, h1, h2, h3⟩ => by injection h1 with h1; subst h1; exact ⟨c, h2, h3⟩⟩
theorem best_eq {i j : Nat} (a : Bool) (hi : i ≤ old.length) (hj : j ≤ new.length) (hne : ¬ (i = old.length ∧ j = new.length)) : leastO (cands old new line i j a) = bestN old new line i j a := by
  have over : ∀ y ∈ allC old new line i j a, ∃ z ∈ cands old new line i j a, ltC y z = false := by
    intro y hy
    obtain ⟨h1, h2⟩ := (mem_all old new line).mp hy
    rcases (mem_rows old new).mp h1 with ⟨e1, e2, _⟩ | ⟨x, s, e1, e2, e3⟩ | ⟨x, s, e1, e2, e3⟩ | ⟨x, s, e1, e1', e2, e3⟩
    · exact absurd ⟨e1, e2⟩ hne
    · have hl := (List.getElem?_eq_some_iff.mp e1).1
      obtain ⟨c, hc⟩ := best_some old new line true (i := i + 1) (j := j) (by omega) hj
      have q2 := (leastO_iff.mp hc).2 (inkN line true s, s) ((mem_all old new line).mpr ⟨e2, rfl⟩)
      refine ⟨_, (mem_cands old new line).mpr (.inr (.inl ⟨x, c, e1, hc, rfl⟩)), ?_⟩
      have ey : y = ((if a then 0 else line) + inkN line true s, (.strike, x) :: s) := Prod.ext (by rw [h2, e3]; rfl) e3
      rw [ey, Nat.add_comm c.1]
      exact ltC_false _ _ q2
    · have hl := (List.getElem?_eq_some_iff.mp e1).1
      obtain ⟨c, hc⟩ := best_some old new line false (i := i) (j := j + 1) hi (by omega)
      have q2 := (leastO_iff.mp hc).2 (inkN line false s, s) ((mem_all old new line).mpr ⟨e2, rfl⟩)
      refine ⟨_, (mem_cands old new line).mpr (.inr (.inr ⟨x, c, e1, hc, rfl⟩)), ?_⟩
      have ey : y = ((x.length + 1) + inkN line false s, (.put, x) :: s) := Prod.ext (by rw [h2, e3]; rfl) e3
      rw [ey, show c.1 + x.length + 1 = (x.length + 1) + c.1 by omega]
      exact ltC_false _ _ q2
    · have hl := (List.getElem?_eq_some_iff.mp e1).1
      have hl2 := (List.getElem?_eq_some_iff.mp e1').1
      obtain ⟨c, hc⟩ := best_some old new line false (i := i + 1) (j := j + 1) (by omega) (by omega)
      have q2 := (leastO_iff.mp hc).2 (inkN line false s, s) ((mem_all old new line).mpr ⟨e2, rfl⟩)
      refine ⟨_, (mem_cands old new line).mpr (.inl ⟨x, c, e1, e1', hc, rfl⟩), ?_⟩
      have ey : y = (0 + inkN line false s, (.keep, x) :: s) := Prod.ext (by rw [h2, e3]; rfl) e3
      have := ltC_false 0 (Kd.keep, x) q2
      rw [ey]
      rw [Nat.zero_add c.1] at this
      exact this
  obtain ⟨b, hb⟩ := best_some old new line a hi hj
  have hbm := (leastO_iff.mp hb).1
  have hcne : cands old new line i j a ≠ [] := by
    obtain ⟨z, hz, _⟩ := over b hbm
    intro e
    rw [e] at hz
    cases hz
  obtain ⟨c, hc⟩ := leastO_some hcne
  rw [hc]
  obtain ⟨h1, h2⟩ := leastO_iff.mp hc
  symm
  unfold bestN
  rw [leastO_iff]
  refine ⟨?_, fun y hy => ?_⟩
  · rcases (mem_cands old new line).mp h1 with ⟨w, d, e1, e2, e3, rfl⟩ | ⟨w, d, e1, e3, rfl⟩ | ⟨w, d, e1, e3, rfl⟩
    · obtain ⟨q1, q2⟩ := best_in old new line e3
      refine (mem_all old new line).mpr ⟨(mem_rows old new).mpr (.inr (.inr (.inr ⟨w, d.2, e1, e2, q1, rfl⟩))), ?_⟩
      show d.1 = 0 + inkN line false d.2
      rw [Nat.zero_add, q2]
    · obtain ⟨q1, q2⟩ := best_in old new line e3
      refine (mem_all old new line).mpr ⟨(mem_rows old new).mpr (.inr (.inl ⟨w, d.2, e1, q1, rfl⟩)), ?_⟩
      show d.1 + (if a then 0 else line) = (if a then 0 else line) + inkN line true d.2
      rw [Nat.add_comm, q2]
    · obtain ⟨q1, q2⟩ := best_in old new line e3
      refine (mem_all old new line).mpr ⟨(mem_rows old new).mpr (.inr (.inr (.inl ⟨w, d.2, e1, q1, rfl⟩))), ?_⟩
      show d.1 + w.length + 1 = w.length + 1 + inkN line false d.2
      rw [q2]
      omega
  · obtain ⟨z, hz, hyz⟩ := over y hy
    have hza := h2 z hz
    cases q : ltC y c with
    | false => rfl
    | true =>
      exfalso
      cases d : ltC z y with
      | true =>
        have := do_c.tr _ _ _ d q
        rw [hza] at this
        cases this
      | false =>
        have := do_c.tri _ _ hyz d
        rw [this, hza] at q
        cases q
theorem best_len {i j : Nat} {a : Bool} {b : Nat × Row} (hi : i ≤ old.length) (hj : j ≤ new.length) (h : bestN old new line i j a = some b) : b.2.length ≤ old.length + new.length := by
  have := (row_texts old new i j hi hj b.2 (best_in old new line h).1).2.2
  omega
end
end K24
end

section
namespace K24
open PySem DV
theorem cd_al {x : Nat × Row} (h : x.2.length ≤ 1000) : alD (cdD x) = true ∧ dpD (cdD x) ≤ 3 := by
  obtain ⟨a, b⟩ := mr_al h
  refine ⟨?_, ?_⟩
  · show ((true && (alD (mrD x.2) && true)) && decide (2 ≤ 1000000)) = true
    rw [a]
    rfl
  · show max 0 (max (dpD (mrD x.2)) 0) + 1 ≤ 3
    omega
/-- a part of one word, or of none -/
def optT (o : Option Str) : D := strT o.toList
theorem opt_nil (o : Option Str) : eqF (optT o) (.tuple []) = some o.isNone := by
  cases o with
  | none => decide +kernel
  | some x =>
    have : okD (optT (some x)) = true := ok_al (show alD (.tuple [.str x]) = true from rfl) (show (1 : Nat) ≤ 30 by omega)
    exact eq_nilT this
theorem opt_eq (x y : Str) : eqF (optT (some x)) (optT (some y)) = some (decide (x = y)) := by
  have h := eq_DO (DO.str.tup (m := 1) (by omega)) (by omega) [x] [y] (plain_tup (emb := PyData.str) (fun _ => rfl) _) (plain_tup (emb := PyData.str) (fun _ => rfl) _)
  refine Eq.trans h ?_
  congr 1
  by_cases c : x = y
  · subst c; simp
  · simp [c]
theorem opt_at (x : Str) : L2.atI [PyData.str x] 0 = some (.str x) := rfl
theorem add_md {s : Row} (h : s.length ≤ 1000) (k : Kd) (x : Str) : addF (.tuple [.tuple [.str (kdS k), .str x]]) (mrD s) = some (mrD ((k, x) :: s)) := by
  show (if 1 + (s.map mpD).length ≤ sizeLine then some (PyData.tuple ([.tuple [.str (kdS k), .str x]] ++ s.map mpD)) else none) = _
  rw [if_pos (by rw [List.length_map, sizeLine_eq]; omega)]
  rfl
def lfS (kvs : List (D × D)) (o1 o2 : Option Str) (i j : Nat) (a : Bool) (line : Nat) (r x9 x10 : Sl) : Ro := [.sh (.dict kvs), .sh (optT o1), .sh (optT o2), .sh (prbD (i, j, a)), .sh (natK line), r, .sh (natK i), .sh (natK j), .sh (.bool a), x9, x10]
theorem from_ok {n i j line : Nat} {a : Bool} {old new : List Str} {kvs : List (D × D)} {f : Nat × Nat × Bool → Option D} {m : Nat} (hi : i ≤ old.length) (hj : j ≤ new.length) (h1 : old.length ≤ 100) (h2 : new.length ≤ 100) (kd : KD prbD kvs f m)
    (fK : i < old.length → j < new.length → f (i + 1, j + 1, false) = (bestN old new line (i + 1) (j + 1) false).map cdD) (fS : i < old.length → f (i + 1, j, true) = (bestN old new line (i + 1) j true).map cdD) (fP : j < new.length → f (i, j + 1, false) = (bestN old new line i (j + 1) false).map cdD) :
    ∃ b, bestN old new line i j a = some b ∧ evF tab (n + 1) 8 [.dict kvs, optT old[i]?, optT new[j]?, prbD (i, j, a), natK line] = some (cdD b, []) := by
  obtain ⟨b, hb⟩ := best_some old new line a hi hj
  refine ⟨b, hb, ?_⟩
  refine call_eq (fi := fi8) rfl [.sh (.dict kvs), .sh (optT old[i]?), .sh (optT new[j]?), .sh (prbD (i, j, a)), .sh (natK line)] rfl ?_
  show Run _ fi8.body [.sh (.dict kvs), .sh (optT old[i]?), .sh (optT new[j]?), .sh (prbD (i, j, a)), .sh (natK line), .no, .no, .no, .no, .no, .no] _
  unfold fi8
  have hsl : 2000000 ≤ sizeLine := by rw [sizeLine_eq]; decide
  refine run_nx (ρ' := lfS kvs old[i]? new[j]? i j a line .no .no .no) (by simp [lfS, prbD]) ?_
  have n1 := opt_nil old[i]?
  have n2 := opt_nil new[j]?
  have no1 : old[i]?.isNone = decide (i = old.length) := by
    by_cases c : i = old.length
    · rw [List.getElem?_eq_none (by omega), decide_eq_true c]; rfl
    · rw [List.getElem?_eq_getElem (show i < old.length by omega), decide_eq_false c]; rfl
  have no2 : new[j]?.isNone = decide (j = new.length) := by
    by_cases c : j = new.length
    · rw [List.getElem?_eq_none (by omega), decide_eq_true c]; rfl
    · rw [List.getElem?_eq_getElem (show j < new.length by omega), decide_eq_false c]; rfl
  by_cases hend : i = old.length ∧ j = new.length
  · rw [no1, decide_eq_true hend.1] at n1
    rw [no2, decide_eq_true hend.2] at n2
    refine run_ite (k := true) (ρ' := lfS kvs old[i]? new[j]? i j a line .no .no .no) (by simp [lfS, n1, n2]) (fun _ => ?_) fun q => nomatch q
    have hb0 : b = (0, []) := by
      have e : bestN old new line i j a = some (0, []) := by
        unfold bestN allC
        rw [rows_eq]
        have e1 : old[i]? = none := List.getElem?_eq_none (by omega)
        have e2 : new[j]? = none := List.getElem?_eq_none (by omega)
        unfold doneN strN putN keepN
        rw [if_pos hend, e1, e2]
        rfl
      rw [hb] at e
      injection e
    rw [hb0]
    exact run_rt (r := (.tuple [.int 0, .tuple []], lfS kvs old[i]? new[j]? i j a line .no .no .no)) (by simp [lfS]) ⟨_, rfl, rfl⟩
  · refine run_ite (k := false) (ρ' := lfS kvs old[i]? new[j]? i j a line .no .no .no) (by
      rw [no1] at n1
      rw [no2] at n2
      by_cases c : i = old.length
      · have c2 : ¬ j = new.length := fun q => hend ⟨c, q⟩
        rw [decide_eq_true c] at n1
        rw [decide_eq_false c2] at n2
        simp [lfS, n1, n2]
      · rw [decide_eq_false c] at n1
        simp [lfS, n1]) (fun q => nomatch q) fun _ => run_nil ?_
    refine run_nx (ρ' := lfS kvs old[i]? new[j]? i j a line (.ow (.list (([] : List (Nat × Row)).map cdD))) .no .no) (by simp [lfS]) ?_
    have bl : ∀ i' j' a' (c : Nat × Row), i' ≤ old.length → j' ≤ new.length → bestN old new line i' j' a' = some c → c.2.length ≤ 200 := fun i' j' a' c hi' hj' h => by
      have := best_len old new line hi' hj' h
      omega
    -- keep
    have cn := best_eq old new line a hi hj hend
    have hK : ∃ x9 x10, ∀ {ss : ISs} {P : Fl → Prop}, Run (evF tab n) ss (lfS kvs old[i]? new[j]? i j a line (.ow (.list ((candK old new line i j).map cdD))) x9 x10) P → Run (evF tab n) (.cons (.iff (.and (.prim (.cmp .NotEq) (.cons (.var 1) (.cons (.tup .nil) .nil))) (.prim (.cmp .Eq) (.cons (.var 1) (.cons (.var 2) .nil)))) (.cons (.asg (.tp (.cons (.nm 9) (.cons (.nm 10) .nil))) false (.prim .ix (.cons (.var 0) (.cons (.tup (.cons (.prim (.bin .Add) (.cons (.var 6) (.cons (.con (.int 1)) .nil))) (.cons (.prim (.bin .Add) (.cons (.var 7) (.cons (.con (.int 1)) .nil))) (.cons (.con (.bool false)) .nil)))) .nil)))) (.cons (.exp (.mut .append 5 (.cons (.tup (.cons (.var 9) (.cons (.prim (.bin .Add) (.cons (.tup (.cons (.tup (.cons (.con (.str ⟨#[107, 101, 101, 112]⟩)) (.cons (.prim .ix (.cons (.var 1) (.cons (.con (.int 0)) .nil))) .nil))) .nil)) (.cons (.var 10) .nil))) .nil))) .nil))) .nil)) .nil) ss) (lfS kvs old[i]? new[j]? i j a line (.ow (.list (([] : List (Nat × Row)).map cdD))) .no .no) P := by
      cases ho : old[i]? with
      | none =>
        rw [ho] at n1
        have hc : candK old new line i j = [] := by unfold candK; rw [ho]
        refine ⟨.no, .no, fun {ss P} hr => ?_⟩
        rw [hc] at hr
        refine run_ite (k := false) (ρ' := lfS kvs none new[j]? i j a line (.ow (.list (([] : List (Nat × Row)).map cdD))) .no .no) (by
          have n1 : eqF (optT none) (.tuple []) = some true := n1
          simp [lfS, n1]) (fun q => nomatch q) fun _ => run_nil ?_
        exact hr
      | some x =>
        rw [ho] at n1
        have n1 : eqF (optT (some x)) (.tuple []) = some false := n1
        cases hn : new[j]? with
        | none =>
          have hc : candK old new line i j = [] := by unfold candK; rw [ho, hn]
          refine ⟨.no, .no, fun {ss P} hr => ?_⟩
          rw [hc] at hr
          have ne : eqF (optT (some x)) (optT none) = some false := by
            rw [← n1]
            rfl
          exact run_ite (k := false) (ρ' := lfS kvs (some x) none i j a line (.ow (.list (([] : List (Nat × Row)).map cdD))) .no .no) (by simp [lfS, n1, ne]) (fun q => nomatch q) fun _ => run_nil hr
        | some y =>
          have hil := (List.getElem?_eq_some_iff.mp ho).1
          have hjl := (List.getElem?_eq_some_iff.mp hn).1
          have oe := opt_eq x y
          by_cases c : x = y
          · subst c
            rw [decide_eq_true rfl] at oe
            obtain ⟨d, hd⟩ := best_some old new line false (i := i + 1) (j := j + 1) (by omega) (by omega)
            have dl := bl _ _ _ _ (by omega) (by omega) hd
            have ix := kd.ix key_nnb (i + 1, j + 1, false)
            rw [fK hil hjl, hd] at ix
            have ix : ixF (.dict kvs) (.tuple [.int ((i : Int) + 1), .int ((j : Int) + 1), .bool false]) = some (.tuple [natK d.1, mrD d.2]) := ix
            have am := add_md (s := d.2) (by omega) .keep x
            have am : addF (.tuple [.tuple [.str ⟨#[107, 101, 101, 112]⟩, .str x]]) (mrD d.2) = some (mrD ((.keep, x) :: d.2)) := am
            refine ⟨.sh (natK d.1), .sh (mrD d.2), fun {ss P} hr => ?_⟩
            refine run_ite (k := true) (ρ' := lfS kvs (some x) (some x) i j a line (.ow (.list (([] : List (Nat × Row)).map cdD))) .no .no) (by simp [lfS, n1, oe]) (fun _ => ?_) fun q => nomatch q
            refine run_nx (ρ' := lfS kvs (some x) (some x) i j a line (.ow (.list (([] : List (Nat × Row)).map cdD))) (.sh (natK d.1)) (.sh (mrD d.2))) (by simp [lfS, natK] at ix ⊢; simp [ix]) ?_
            have z0 : 0 < sizeLine := by omega
            have ot : optT (some x) = .tuple [.str x] := rfl
            have oa := opt_at x
            refine run_nx (ρ' := lfS kvs (some x) (some x) i j a line (.ow (.list [cdD (d.1, (.keep, x) :: d.2)])) (.sh (natK d.1)) (.sh (mrD d.2))) (by simp [lfS, ot, oa, am, z0, cdD]) (run_nil ?_)
            have hc : candK old new line i j = [(d.1, (Kd.keep, x) :: d.2)] := by
              unfold candK
              rw [ho, hn]
              show (if x = x then _ else []) = _
              rw [if_pos rfl, hd]
              rfl
            rw [hc] at hr
            exact hr
          · rw [decide_eq_false c] at oe
            refine ⟨.no, .no, fun {ss P} hr => ?_⟩
            have hc : candK old new line i j = [] := by
              unfold candK
              rw [ho, hn]
              show (if x = y then _ else []) = _
              rw [if_neg c]
            rw [hc] at hr
            exact run_ite (k := false) (ρ' := lfS kvs (some x) (some y) i j a line (.ow (.list (([] : List (Nat × Row)).map cdD))) .no .no) (by simp [lfS, n1, oe]) (fun q => nomatch q) fun _ => run_nil hr
    obtain ⟨x9, x10, hK⟩ := hK
    refine hK ?_
    clear hK
    have lK : (candK old new line i j).length ≤ 1 := by
      unfold candK
      split
      · split
        · rw [List.length_map]; cases bestN old new line (i + 1) (j + 1) false <;> simp
        · exact Nat.zero_le _
      · exact Nat.zero_le _
    generalize hcK : candK old new line i j = cK at lK
    have hS : ∃ y9 y10, ∀ {ss : ISs} {P : Fl → Prop}, Run (evF tab n) ss (lfS kvs old[i]? new[j]? i j a line (.ow (.list ((cK ++ candS old new line i j a).map cdD))) y9 y10) P → Run (evF tab n) (.cons (.iff (.prim (.cmp .NotEq) (.cons (.var 1) (.cons (.tup .nil) .nil))) (.cons (.asg (.tp (.cons (.nm 9) (.cons (.nm 10) .nil))) false (.prim .ix (.cons (.var 0) (.cons (.tup (.cons (.prim (.bin .Add) (.cons (.var 6) (.cons (.con (.int 1)) .nil))) (.cons (.var 7) (.cons (.con (.bool true)) .nil)))) .nil)))) (.cons (.exp (.mut .append 5 (.cons (.tup (.cons (.prim (.bin .Add) (.cons (.var 9) (.cons (.ife (.var 8) (.con (.int 0)) (.var 4)) .nil))) (.cons (.prim (.bin .Add) (.cons (.tup (.cons (.tup (.cons (.con (.str ⟨#[115, 116, 114, 105, 107, 101]⟩)) (.cons (.prim .ix (.cons (.var 1) (.cons (.con (.int 0)) .nil))) .nil))) .nil)) (.cons (.var 10) .nil))) .nil))) .nil))) .nil)) .nil) ss) (lfS kvs old[i]? new[j]? i j a line (.ow (.list (cK.map cdD))) x9 x10) P := by
      cases ho : old[i]? with
      | none =>
        rw [ho] at n1
        have n1 : eqF (optT none) (.tuple []) = some true := n1
        have hc : candS old new line i j a = [] := by unfold candS; rw [ho]
        refine ⟨x9, x10, fun {ss P} hr => ?_⟩
        rw [hc, List.append_nil] at hr
        exact run_ite (k := false) (ρ' := lfS kvs none new[j]? i j a line (.ow (.list (cK.map cdD))) x9 x10) (by simp [lfS, n1]) (fun q => nomatch q) fun _ => run_nil hr
      | some x =>
        rw [ho] at n1
        have n1 : eqF (optT (some x)) (.tuple []) = some false := n1
        have hil := (List.getElem?_eq_some_iff.mp ho).1
        obtain ⟨d, hd⟩ := best_some old new line true (i := i + 1) (j := j) (by omega) hj
        have dl := bl _ _ _ _ (by omega) (by omega) hd
        have ix := kd.ix key_nnb (i + 1, j, true)
        rw [fS hil, hd] at ix
        have ix : ixF (.dict kvs) (.tuple [.int ((i : Int) + 1), .int (j : Int), .bool true]) = some (.tuple [natK d.1, mrD d.2]) := ix
        have am : addF (.tuple [.tuple [.str ⟨#[115, 116, 114, 105, 107, 101]⟩, .str x]]) (mrD d.2) = some (mrD ((.strike, x) :: d.2)) := add_md (s := d.2) (by omega) .strike x
        have hc : candS old new line i j a = [(d.1 + (if a then 0 else line), (Kd.strike, x) :: d.2)] := by
          unfold candS
          rw [ho]
          show (bestN old new line (i + 1) j true).toList.map _ = _
          rw [hd]
          rfl
        refine ⟨.sh (natK d.1), .sh (mrD d.2), fun {ss P} hr => ?_⟩
        rw [hc] at hr
        refine run_ite (k := true) (ρ' := lfS kvs (some x) new[j]? i j a line (.ow (.list (cK.map cdD))) x9 x10) (by simp [lfS, n1]) (fun _ => ?_) fun q => nomatch q
        refine run_nx (ρ' := lfS kvs (some x) new[j]? i j a line (.ow (.list (cK.map cdD))) (.sh (natK d.1)) (.sh (mrD d.2))) (by simp [lfS, natK] at ix ⊢; simp [ix]) ?_
        have z0 : (cK.map cdD).length < sizeLine := by rw [List.length_map]; omega
        have ot : optT (some x) = .tuple [.str x] := rfl
        have oa := opt_at x
        rw [List.map_append] at hr
        generalize cK.map cdD = L at z0 hr ⊢
        refine run_nx (ρ' := lfS kvs (some x) new[j]? i j a line (.ow (.list (L ++ [cdD (d.1 + (if a then 0 else line), (.strike, x) :: d.2)]))) (.sh (natK d.1)) (.sh (mrD d.2))) (by
          cases a
          · simp [lfS, ot, oa, am, z0, cdD, natK]
          · simp [lfS, ot, oa, am, z0, cdD, natK]) (run_nil hr)
    obtain ⟨y9, y10, hS⟩ := hS
    refine hS ?_
    clear hS
    have lS : (cK ++ candS old new line i j a).length ≤ 2 := by
      rw [List.length_append]
      have : (candS old new line i j a).length ≤ 1 := by
        unfold candS
        split
        · rw [List.length_map]; cases bestN old new line (i + 1) j true <;> simp
        · exact Nat.zero_le _
      omega
    have hP : ∃ z9 z10, ∀ {ss : ISs} {P : Fl → Prop}, Run (evF tab n) ss (lfS kvs old[i]? new[j]? i j a line (.ow (.list ((cK ++ candS old new line i j a ++ candP old new line i j).map cdD))) z9 z10) P → Run (evF tab n) (.cons (.iff (.prim (.cmp .NotEq) (.cons (.var 2) (.cons (.tup .nil) .nil))) (.cons (.asg (.tp (.cons (.nm 9) (.cons (.nm 10) .nil))) false (.prim .ix (.cons (.var 0) (.cons (.tup (.cons (.var 6) (.cons (.prim (.bin .Add) (.cons (.var 7) (.cons (.con (.int 1)) .nil))) (.cons (.con (.bool false)) .nil)))) .nil)))) (.cons (.exp (.mut .append 5 (.cons (.tup (.cons (.prim (.bin .Add) (.cons (.prim (.bin .Add) (.cons (.var 9) (.cons (.prim .len (.cons (.prim .ix (.cons (.var 2) (.cons (.con (.int 0)) .nil))) .nil)) .nil))) (.cons (.con (.int 1)) .nil))) (.cons (.prim (.bin .Add) (.cons (.tup (.cons (.tup (.cons (.con (.str ⟨#[112, 117, 116]⟩)) (.cons (.prim .ix (.cons (.var 2) (.cons (.con (.int 0)) .nil))) .nil))) .nil)) (.cons (.var 10) .nil))) .nil))) .nil))) .nil)) .nil) ss) (lfS kvs old[i]? new[j]? i j a line (.ow (.list ((cK ++ candS old new line i j a).map cdD))) y9 y10) P := by
      generalize cK ++ candS old new line i j a = cS at lS
      cases ho : new[j]? with
      | none =>
        rw [ho] at n2
        have n2 : eqF (optT none) (.tuple []) = some true := n2
        have hc : candP old new line i j = [] := by unfold candP; rw [ho]
        refine ⟨y9, y10, fun {ss P} hr => ?_⟩
        rw [hc, List.append_nil] at hr
        exact run_ite (k := false) (ρ' := lfS kvs old[i]? none i j a line (.ow (.list (cS.map cdD))) y9 y10) (by simp [lfS, n2]) (fun q => nomatch q) fun _ => run_nil hr
      | some x =>
        rw [ho] at n2
        have n2 : eqF (optT (some x)) (.tuple []) = some false := n2
        have hjl := (List.getElem?_eq_some_iff.mp ho).1
        obtain ⟨d, hd⟩ := best_some old new line false (i := i) (j := j + 1) hi (by omega)
        have dl := bl _ _ _ _ (by omega) (by omega) hd
        have ix := kd.ix key_nnb (i, j + 1, false)
        rw [fP hjl, hd] at ix
        have ix : ixF (.dict kvs) (.tuple [.int (i : Int), .int ((j : Int) + 1), .bool false]) = some (.tuple [natK d.1, mrD d.2]) := ix
        have am : addF (.tuple [.tuple [.str ⟨#[112, 117, 116]⟩, .str x]]) (mrD d.2) = some (mrD ((.put, x) :: d.2)) := add_md (s := d.2) (by omega) .put x
        have hc : candP old new line i j = [(d.1 + x.length + 1, (Kd.put, x) :: d.2)] := by
          unfold candP
          rw [ho]
          show (bestN old new line i (j + 1) false).toList.map _ = _
          rw [hd]
          rfl
        refine ⟨.sh (natK d.1), .sh (mrD d.2), fun {ss P} hr => ?_⟩
        rw [hc] at hr
        refine run_ite (k := true) (ρ' := lfS kvs old[i]? (some x) i j a line (.ow (.list (cS.map cdD))) y9 y10) (by simp [lfS, n2]) (fun _ => ?_) fun q => nomatch q
        refine run_nx (ρ' := lfS kvs old[i]? (some x) i j a line (.ow (.list (cS.map cdD))) (.sh (natK d.1)) (.sh (mrD d.2))) (by simp [lfS, natK] at ix ⊢; simp [ix]) ?_
        have z0 : (cS.map cdD).length < sizeLine := by rw [List.length_map]; omega
        have ot : optT (some x) = .tuple [.str x] := rfl
        have oa := opt_at x
        rw [List.map_append] at hr
        generalize cS.map cdD = L at z0 hr ⊢
        refine run_nx (ρ' := lfS kvs old[i]? (some x) i j a line (.ow (.list (L ++ [cdD (d.1 + x.length + 1, (.put, x) :: d.2)]))) (.sh (natK d.1)) (.sh (mrD d.2))) (by simp [lfS, ot, oa, am, z0, cdD, natK]) (run_nil hr)
    obtain ⟨z9, z10, hP⟩ := hP
    refine hP ?_
    clear hP
    have hcs : cK ++ candS old new line i j a ++ candP old new line i j = cands old new line i j a := by rw [← hcK]; rfl
    rw [hcs]
    rw [hb] at cn
    cases hcc : cands old new line i j a with
    | nil => rw [hcc] at cn; cases cn
    | cons x xs =>
      rw [hcc] at cn
      injection cn with cn
      have mi := min_DO do_c (by omega) x xs
      rw [cn] at mi
      generalize (x :: xs).map cdD = L at mi ⊢
      exact run_rt (r := (cdD b, lfS kvs old[i]? new[j]? i j a line (.ow (.list L)) z9 z10)) (by simp [lfS, -pr_min1, mi]) ⟨_, rfl, rfl⟩
end K24
end

section
namespace K24
open PySem DV
/-- what stands when the rows from ci on are done, and of row ci - 1 the places from cj on -/
def fT {α : Type} (g : α → Option D) (pl : α → Nat × Nat) (n m ci cj : Nat) (a : α) : Option D := if (pl a).1 ≤ n ∧ (pl a).2 ≤ m ∧ (ci ≤ (pl a).1 ∨ ((pl a).1 + 1 = ci ∧ cj ≤ (pl a).2)) then g a else none
theorem rng_incl {n : Nat} (h : n ≤ 10000) : rngF [.int (n : Int), .int (-1), .int (-1)] = some ((downTo (n + 1)).map natK) := by
  have := rng_downTo (n := n + 1) (by omega)
  rw [show (((n + 1 : Nat) : Int) - 1) = (n : Int) by omega] at this
  exact this
theorem slice_one (ws : List Str) (i : Nat) : slF (some (i : Int)) (some ((i : Int) + 1)) (strT ws) = some (optT ws[i]?) := by
  show some (PyData.tuple (cut (ws.map PyData.str) (some (i : Int)) (some (((i + 1 : Nat)) : Int)))) = _
  rw [cut_both, show i + 1 - i = 1 by omega]
  unfold optT strT
  congr 2
  by_cases h : i < ws.length
  · rw [List.drop_eq_getElem_cons (by rw [List.length_map]; exact h), List.getElem?_eq_getElem h]
    simp
  · rw [List.drop_eq_nil_of_le (by rw [List.length_map]; omega), List.getElem?_eq_none (by omega)]
    rfl
def liS (old new : List Str) (line : Nat) (kvs : List (D × D)) (a b c : Sl) : Ro := [.sh (strT old), .sh (strT new), .sh (natK line), .ow (.dict kvs), a, b, c]
def gB (old new : List Str) (line : Nat) (k : Nat × Nat × Bool) : Option D := (bestN old new line k.1 k.2.1 k.2.2).map cdD
theorem leastink_ok {n line : Nat} {old new : List Str} (h1 : old.length ≤ 100) (h2 : new.length ≤ 100) : ∃ b, bestN old new line 0 0 false = some b ∧ evF tab (n + 2) 7 [strT old, strT new, natK line] = some (cdD b, []) := by
  obtain ⟨b0, hb0⟩ := best_some old new line false (i := 0) (j := 0) (Nat.zero_le _) (Nat.zero_le _)
  refine ⟨b0, hb0, ?_⟩
  refine call_eq (fi := fi7) rfl [.sh (strT old), .sh (strT new), .sh (natK line)] rfl ?_
  show Run _ fi7.body [.sh (strT old), .sh (strT new), .sh (natK line), .no, .no, .no, .no] _
  unfold fi7
  have hsl : 2000000 ≤ sizeLine := by rw [sizeLine_eq]; decide
  refine run_nx (ρ' := liS old new line [] .no .no .no) (by simp [liS, pairUp, dputs]) ?_
  refine run_forA (ρ' := liS old new line [] .no .no .no) (downTo (old.length + 1)) natK (fun ys ρ => ∃ kvs a b c, ρ = liS old new line kvs a b c ∧ KD prbD kvs (fT (gB old new line) (fun k => (k.1, k.2.1)) old.length new.length (old.length + 1 - ys.length) (new.length + 1)) (ys.length * 1000)) (by
    have r := rng_incl (n := old.length) (by omega)
    have l := len_strT old
    simp [liS, l, r]) ⟨[], .no, .no, .no, rfl, KD.nil.congr fun k => by
      unfold fT
      rw [if_neg (by simp; omega)]⟩ ?_ ?_
  · rintro ys i zs ρ' hl ⟨kvs, a, b, c, rfl, kd⟩
    obtain ⟨q1, q2⟩ := down_at hl
    refine ⟨liS old new line kvs (.sh (natK i)) b c, rfl, ?_⟩
    have e0 : old.length + 1 - ys.length = i + 1 := by omega
    rw [e0] at kd
    refine run_forA (ρ' := liS old new line kvs (.sh (natK i)) b c) (downTo (new.length + 1)) natK (fun js ρ => ∃ kvs b c, ρ = liS old new line kvs (.sh (natK i)) b c ∧ KD prbD kvs (fT (gB old new line) (fun k => (k.1, k.2.1)) old.length new.length (i + 1) (new.length + 1 - js.length)) (ys.length * 1000 + js.length * 2)) (by
      have r := rng_incl (n := new.length) (by omega)
      have l := len_strT new
      simp [liS, l, r]) ⟨kvs, b, c, rfl, kd.congr fun k => rfl⟩ ?_ ?_
    · rintro js j zs2 ρ' hl2 ⟨kvs, b, c, rfl, kd⟩
      obtain ⟨p1, p2⟩ := down_at hl2
      refine ⟨liS old new line kvs (.sh (natK i)) (.sh (natK j)) c, rfl, ?_⟩
      have e1 : new.length + 1 - js.length = j + 1 := by omega
      rw [e1] at kd
      refine run_forA (ρ' := liS old new line kvs (.sh (natK i)) (.sh (natK j)) c) [false, true] PyData.bool (fun as ρ => ∃ kvs c, ρ = liS old new line kvs (.sh (natK i)) (.sh (natK j)) c ∧ KD prbD kvs (fun k => if k.1 = i ∧ k.2.1 = j ∧ k.2.2 ∈ as then gB old new line k else fT (gB old new line) (fun k => (k.1, k.2.1)) old.length new.length (i + 1) (j + 1) k) (ys.length * 1000 + js.length * 2 + as.length)) (by simp [liS]) ⟨kvs, c, rfl, kd.congr fun k => by rw [if_neg (by simp)]⟩ ?_ ?_
      · rintro as x zs3 ρ' hl3 ⟨kvs, c, rfl, kd⟩
        refine ⟨liS old new line kvs (.sh (natK i)) (.sh (natK j)) (.sh (.bool x)), rfl, ?_⟩
        have asl : as.length ≤ 2 := by
          have := congrArg List.length hl3
          rw [List.length_append] at this
          simp at this
          omega
        obtain ⟨bb, hbb, ef⟩ := from_ok (n := n) (line := line) (a := x) (old := old) (new := new) (i := i) (j := j) (by omega) (by omega) h1 h2 kd
          (fun hi hj => by
            rw [if_neg (by simp)]
            unfold fT
            rw [if_pos (by simp; omega)]
            rfl)
          (fun hi => by
            rw [if_neg (by simp)]
            unfold fT
            rw [if_pos (by simp; omega)]
            rfl)
          (fun hj => by
            rw [if_neg (by simp)]
            unfold fT
            rw [if_pos (by simp; omega)]
            rfl)
        obtain ⟨kvs2, s1, kd2⟩ := kd.put key_nnb (i, j, x) (cdD bb) (by omega)
        have bl := best_len old new line (by omega) (by omega) hbb
        have nm := al_noMut _ (cd_al (x := bb) (by omega)).1
        have sl1 := slice_one old i
        have sl2 := slice_one new j
        have ef' : evF tab (n + 1) 8 [.dict kvs, optT old[i]?, optT new[j]?, .tuple [natK i, natK j, .bool x], natK line] = some (cdD bb, []) := ef
        have s1' : setIxF (.dict kvs) (.tuple [natK i, natK j, .bool x]) (cdD bb) = some (.dict kvs2) := by
          show (dputF kvs (prbD (i, j, x)) (cdD bb)).map PyData.dict = _
          rw [s1]
          rfl
        have pi : partOf (natK i) = some (some (i : Int)) := rfl
        have pj : partOf (natK j) = some (some (j : Int)) := rfl
        have ai : addF (natK i) (.int 1) = some (.int ((i : Int) + 1)) := rfl
        have aj : addF (natK j) (.int 1) = some (.int ((j : Int) + 1)) := rfl
        refine run_nx (ρ' := liS old new line kvs2 (.sh (natK i)) (.sh (natK j)) (.sh (.bool x))) (by
          generalize optT old[i]? = o1 at sl1 ef'
          generalize optT new[j]? = o2 at sl2 ef'
          generalize cdD bb = cv at ef' nm s1'
          simp [liS, pi, pj, ai, aj, sl1, sl2, ef', nm, s1']) (run_nil ⟨kvs2, _, rfl, (kd2.mono (by rw [List.length_append]; simp; omega)).congr fun k => ?_⟩)
        by_cases ck : k = (i, j, x)
        · subst ck
          rw [if_pos rfl, if_pos (by simp)]
          unfold gB
          rw [hbb]
          rfl
        · rw [if_neg ck]
          by_cases c2 : k.1 = i ∧ k.2.1 = j ∧ k.2.2 ∈ as
          · rw [if_pos c2, if_pos ⟨c2.1, c2.2.1, List.mem_append_left _ c2.2.2⟩]
          · rw [if_neg c2, if_neg]
            rintro ⟨g1, g2, g3⟩
            rcases List.mem_append.mp g3 with g3 | g3
            · exact c2 ⟨g1, g2, g3⟩
            · refine ck (Prod.ext g1 (Prod.ext g2 ?_))
              simpa using g3
      · rintro ρ' ⟨kvs, c, rfl, kd⟩
        refine run_nil ⟨kvs, _, c, rfl, (kd.mono (by rw [List.length_append]; simp; omega)).congr fun k => ?_⟩
        rw [List.length_append, show new.length + 1 - (js.length + [j].length) = j by simp; omega]
        unfold fT
        dsimp only
        by_cases c2 : k.1 = i ∧ k.2.1 = j
        · rw [if_pos ⟨c2.1, c2.2, by cases k.2.2 <;> simp⟩, if_pos (by simp; omega)]
        · rw [if_neg (fun q => c2 ⟨q.1, q.2.1⟩)]
          by_cases c3 : k.1 ≤ old.length ∧ k.2.1 ≤ new.length ∧ (i + 1 ≤ k.1 ∨ (k.1 + 1 = i + 1 ∧ j + 1 ≤ k.2.1))
          · rw [if_pos c3, if_pos (by omega)]
          · rw [if_neg c3, if_neg (by omega)]
    · rintro ρ' ⟨kvs, b, c, rfl, kd⟩
      have dl : (downTo (new.length + 1)).length = new.length + 1 := by unfold downTo; simp
      rw [dl, Nat.sub_self] at kd
      refine run_nil ⟨kvs, _, b, c, rfl, (kd.mono (by rw [List.length_append]; simp; omega)).congr fun k => ?_⟩
      rw [List.length_append, show old.length + 1 - (ys.length + [i].length) = i by simp; omega]
      unfold fT
      dsimp only
      by_cases c3 : k.1 ≤ old.length ∧ k.2.1 ≤ new.length ∧ i ≤ k.1
      · rw [if_pos (by omega), if_pos (by omega)]
      · rw [if_neg (by omega), if_neg (by omega)]
  · rintro ρ' ⟨kvs, a, b, c, rfl, kd⟩
    have i := kd.ix key_nnb (0, 0, false)
    have dl : (downTo (old.length + 1)).length = old.length + 1 := by unfold downTo; simp
    have e : fT (gB old new line) (fun k => (k.1, k.2.1)) old.length new.length (old.length + 1 - (downTo (old.length + 1)).length) (new.length + 1) (0, 0, false) = some (cdD b0) := by
      unfold fT gB
      rw [dl, if_pos (by simp), hb0]
      rfl
    rw [e] at i
    have i' : ixF (.dict kvs) (.tuple [.int 0, .int 0, .bool false]) = some (cdD b0) := i
    exact run_rt (r := (cdD b0, liS old new line kvs a b c)) (by simp [liS, i']) ⟨_, rfl, rfl⟩
end K24
end

section
namespace K24
open PySem DV
def cntN (old new : List Str) (i j : Nat) : Nat := (rowsN old new i j).length
def coS (old new : List Str) (kvs : List (D × D)) (a b c : Sl) : Ro := [.sh (strT old), .sh (strT new), .ow (.dict kvs), a, b, c]
theorem cnt_eq (old new : List Str) (i j : Nat) : cntN old new i j = (if i = old.length ∧ j = new.length then 1 else 0) + (if i < old.length then cntN old new (i + 1) j else 0) + (if j < new.length then cntN old new i (j + 1) else 0) + (if i < old.length ∧ j < new.length ∧ old[i]? = new[j]? then cntN old new (i + 1) (j + 1) else 0) := by
  unfold cntN
  rw [rows_eq old new i j, List.length_append, List.length_append, List.length_append, ← Nat.add_assoc, ← Nat.add_assoc]
  congr 1
  congr 1
  congr 1
  · unfold doneN
    by_cases c : i = old.length ∧ j = new.length
    · rw [if_pos c, if_pos c]; rfl
    · rw [if_neg c, if_neg c]; rfl
  · unfold strN
    by_cases c : i < old.length
    · rw [if_pos c, List.getElem?_eq_getElem c]
      exact List.length_map _
    · rw [if_neg c, List.getElem?_eq_none (by omega)]
      rfl
  · unfold putN
    by_cases c : j < new.length
    · rw [if_pos c, List.getElem?_eq_getElem c]
      exact List.length_map _
    · rw [if_neg c, List.getElem?_eq_none (by omega)]
      rfl
  · unfold keepN
    by_cases c : i < old.length
    · rw [List.getElem?_eq_getElem c]
      by_cases c2 : j < new.length
      · rw [List.getElem?_eq_getElem c2]
        by_cases c3 : old[i] = new[j]
        · rw [if_pos ⟨c, c2, by rw [c3]⟩]
          show (if old[i] = new[j] then _ else []).length = _
          rw [if_pos c3, List.length_map]
        · rw [if_neg (fun q => c3 (by injection q.2.2))]
          show (if old[i] = new[j] then _ else []).length = _
          rw [if_neg c3]
          rfl
      · rw [if_neg (fun q => c2 q.2.1), List.getElem?_eq_none (show new.length ≤ j by omega)]
        rfl
    · rw [if_neg (fun q => c q.1), List.getElem?_eq_none (show old.length ≤ i by omega)]
      rfl
theorem count_ok {n : Nat} {old new : List Str} (h1 : old.length ≤ 100) (h2 : new.length ≤ 100) : evF tab (n + 1) 9 [strT old, strT new] = some (natK (cntN old new 0 0), []) := by
  refine call_eq (fi := fi9) rfl [.sh (strT old), .sh (strT new)] rfl ?_
  show Run _ fi9.body [.sh (strT old), .sh (strT new), .no, .no, .no, .no] _
  unfold fi9
  have hsl : 2000000 ≤ sizeLine := by rw [sizeLine_eq]; decide
  have lo := len_strT old
  have ln := len_strT new
  refine run_nx (ρ' := coS old new [] .no .no .no) (by simp [coS, pairUp, dputs]) ?_
  refine run_forA (ρ' := coS old new [] .no .no .no) (downTo (old.length + 1)) natK (fun ys ρ => ∃ kvs a b c, ρ = coS old new kvs a b c ∧ KD prD kvs (fT (fun k => some (natK (cntN old new k.1 k.2))) id old.length new.length (old.length + 1 - ys.length) (new.length + 1)) (ys.length * 1000)) (by
    have r := rng_incl (n := old.length) (by omega)
    simp [coS, lo, r]) ⟨[], .no, .no, .no, rfl, KD.nil.congr fun k => by
      unfold fT
      rw [if_neg (by simp; omega)]⟩ ?_ ?_
  · rintro ys i zs ρ' hl ⟨kvs, a, b, c, rfl, kd⟩
    obtain ⟨q1, q2⟩ := down_at hl
    refine ⟨coS old new kvs (.sh (natK i)) b c, rfl, ?_⟩
    have e0 : old.length + 1 - ys.length = i + 1 := by omega
    rw [e0] at kd
    refine run_forA (ρ' := coS old new kvs (.sh (natK i)) b c) (downTo (new.length + 1)) natK (fun js ρ => ∃ kvs b c, ρ = coS old new kvs (.sh (natK i)) b c ∧ KD prD kvs (fT (fun k => some (natK (cntN old new k.1 k.2))) id old.length new.length (i + 1) (new.length + 1 - js.length)) (ys.length * 1000 + js.length)) (by
      have r := rng_incl (n := new.length) (by omega)
      simp [coS, ln, r]) ⟨kvs, b, c, rfl, kd.congr fun k => rfl⟩ ?_ ?_
    · rintro js j zs2 ρ' hl2 ⟨kvs, b, c, rfl, kd⟩
      obtain ⟨p1, p2⟩ := down_at hl2
      refine ⟨coS old new kvs (.sh (natK i)) (.sh (natK j)) c, rfl, ?_⟩
      have e1 : new.length + 1 - js.length = j + 1 := by omega
      rw [e1] at kd
      have hi : i ≤ old.length := by omega
      have hj : j ≤ new.length := by omega
      have io : ((i : Int) = old.length) = (i = old.length) := nat_inj _ _
      have jo : ((j : Int) = new.length) = (j = new.length) := nat_inj _ _
      refine run_nx (ρ' := coS old new kvs (.sh (natK i)) (.sh (natK j)) (.sh (natK (if i = old.length ∧ j = new.length then 1 else 0)))) (by
        by_cases ci : i = old.length
        · by_cases cj : j = new.length
          · have d1 : (i : Int) = old.length := by omega
            have d2 : (j : Int) = new.length := by omega
            rw [if_pos ⟨ci, cj⟩]
            simp [coS, natK, lo, ln, d1, d2]
          · have d1 : (i : Int) = old.length := by omega
            have d2 : ¬ (j : Int) = new.length := by omega
            rw [if_neg (fun q => cj q.2)]
            simp [coS, natK, lo, ln, d1, d2]
        · have d1 : ¬ (i : Int) = old.length := by omega
          rw [if_neg (fun q => ci q.1)]
          simp [coS, natK, lo, ln, d1]) ?_
      refine run_iteI (k := decide (i < old.length)) (ρ' := coS old new kvs (.sh (natK i)) (.sh (natK j)) (.sh (natK (if i = old.length ∧ j = new.length then 1 else 0)))) (fun ρ => ρ = coS old new kvs (.sh (natK i)) (.sh (natK j)) (.sh (natK ((if i = old.length ∧ j = new.length then 1 else 0) + (if i < old.length then cntN old new (i + 1) j else 0))))) (by
        have : ((i : Int) < old.length) = (i < old.length) := by apply propext; omega
        simp [coS, natK, lo, this]) (fun hc => ?_) (fun hc => ?_) ?_
      · have hc := of_decide_eq_true hc
        rw [if_pos hc]
        have ix := kd.ix key_nn (i + 1, j)
        unfold fT at ix
        rw [if_pos (by simp; omega)] at ix
        have ix : ixF (.dict kvs) (.tuple [.int ((i : Int) + 1), .int (j : Int)]) = some (.int (cntN old new (i + 1) j : Nat)) := ix
        refine run_nx (ρ' := coS old new kvs (.sh (natK i)) (.sh (natK j)) (.sh (natK ((if i = old.length ∧ j = new.length then 1 else 0) + cntN old new (i + 1) j)))) (by
          generalize (if i = old.length ∧ j = new.length then 1 else 0) = u
          simp [coS, natK, ix]) (run_nil ⟨_, rfl, rfl⟩)
      · have hc := of_decide_eq_false hc
        rw [if_neg hc, Nat.add_zero]
        exact run_nil ⟨_, rfl, rfl⟩
      rintro ρ'' rfl
      have ce := cnt_eq old new i j
      generalize (if i = old.length ∧ j = new.length then 1 else 0) + (if i < old.length then cntN old new (i + 1) j else 0) = u at ce ⊢
      refine run_iteI (k := decide (j < new.length)) (ρ' := coS old new kvs (.sh (natK i)) (.sh (natK j)) (.sh (natK u))) (fun ρ => ρ = coS old new kvs (.sh (natK i)) (.sh (natK j)) (.sh (natK (u + (if j < new.length then cntN old new i (j + 1) else 0))))) (by
        have : ((j : Int) < new.length) = (j < new.length) := by apply propext; omega
        simp [coS, natK, ln, this]) (fun hc => ?_) (fun hc => ?_) ?_
      · have hc := of_decide_eq_true hc
        rw [if_pos hc]
        have ix := kd.ix key_nn (i, j + 1)
        unfold fT at ix
        rw [if_pos (by simp; omega)] at ix
        have ix : ixF (.dict kvs) (.tuple [.int (i : Int), .int ((j : Int) + 1)]) = some (.int (cntN old new i (j + 1) : Nat)) := ix
        refine run_nx (ρ' := coS old new kvs (.sh (natK i)) (.sh (natK j)) (.sh (natK (u + cntN old new i (j + 1))))) (by simp [coS, natK, ix]) (run_nil ⟨_, rfl, rfl⟩)
      · have hc := of_decide_eq_false hc
        rw [if_neg hc, Nat.add_zero]
        exact run_nil ⟨_, rfl, rfl⟩
      rintro ρ'' rfl
      generalize u + (if j < new.length then cntN old new i (j + 1) else 0) = v at ce ⊢
      refine run_iteI (k := decide (i < old.length ∧ j < new.length ∧ old[i]? = new[j]?)) (ρ' := coS old new kvs (.sh (natK i)) (.sh (natK j)) (.sh (natK v))) (fun ρ => ρ = coS old new kvs (.sh (natK i)) (.sh (natK j)) (.sh (natK (cntN old new i j)))) (by
        by_cases ci : i < old.length
        · have d1 : (i : Int) < old.length := by omega
          have a1 : ixF (strT old) (.int i) = some (.str old[i]) := at_strT (List.getElem?_eq_getElem ci)
          by_cases cj : j < new.length
          · have d2 : (j : Int) < new.length := by omega
            have a2 : ixF (strT new) (.int j) = some (.str new[j]) := at_strT (List.getElem?_eq_getElem cj)
            rw [List.getElem?_eq_getElem ci, List.getElem?_eq_getElem cj]
            simp [coS, natK, lo, ln, d1, d2, a1, a2, ci, cj]
          · have d2 : ¬ (j : Int) < new.length := by omega
            have d3 : ¬ (i < old.length ∧ j < new.length ∧ old[i]? = new[j]?) := fun q => cj q.2.1
            rw [decide_eq_false d3]
            simp [coS, natK, lo, ln, d1, d2]
        · have d1 : ¬ (i : Int) < old.length := by omega
          have d3 : ¬ (i < old.length ∧ j < new.length ∧ old[i]? = new[j]?) := fun q => ci q.1
          rw [decide_eq_false d3]
          simp [coS, natK, lo, d1]) (fun hc => ?_) (fun hc => ?_) ?_
      · have hc := of_decide_eq_true hc
        rw [if_pos hc] at ce
        have ix := kd.ix key_nn (i + 1, j + 1)
        unfold fT at ix
        rw [if_pos (by simp; omega)] at ix
        have ix : ixF (.dict kvs) (.tuple [.int ((i : Int) + 1), .int ((j : Int) + 1)]) = some (.int (cntN old new (i + 1) (j + 1) : Nat)) := ix
        refine run_nx (ρ' := coS old new kvs (.sh (natK i)) (.sh (natK j)) (.sh (natK (cntN old new i j)))) (by rw [ce]; simp [coS, natK, ix]) (run_nil ⟨_, rfl, rfl⟩)
      · have hc := of_decide_eq_false hc
        rw [if_neg hc, Nat.add_zero] at ce
        rw [ce]
        exact run_nil ⟨_, rfl, rfl⟩
      rintro ρ'' rfl
      obtain ⟨kvs2, s1, kd2⟩ := kd.set key_nn (i, j) (natK (cntN old new i j)) (by omega)
      have s1' : setIxF (.dict kvs) (.tuple [natK i, natK j]) (natK (cntN old new i j)) = some (.dict kvs2) := s1
      refine run_nx (ρ' := coS old new kvs2 (.sh (natK i)) (.sh (natK j)) (.sh (natK (cntN old new i j)))) (by simp [coS, s1']) (run_nil ⟨kvs2, _, _, rfl, (kd2.mono (by rw [List.length_append]; simp; omega)).congr fun k => ?_⟩)
      rw [List.length_append, show new.length + 1 - (js.length + [j].length) = j by simp; omega]
      unfold fT
      dsimp only [id]
      by_cases c2 : k = (i, j)
      · subst c2
        rw [if_pos rfl, if_pos (by simp; omega)]
      · rw [if_neg c2]
        have c2' : ¬ (k.1 = i ∧ k.2 = j) := fun q => c2 (Prod.ext q.1 q.2)
        by_cases c3 : k.1 ≤ old.length ∧ k.2 ≤ new.length ∧ (i + 1 ≤ k.1 ∨ (k.1 + 1 = i + 1 ∧ j + 1 ≤ k.2))
        · rw [if_pos c3, if_pos (by omega)]
        · rw [if_neg c3, if_neg (by omega)]
    · rintro ρ' ⟨kvs, b, c, rfl, kd⟩
      have dl : (downTo (new.length + 1)).length = new.length + 1 := by unfold downTo; simp
      rw [dl, Nat.sub_self] at kd
      refine run_nil ⟨kvs, _, b, c, rfl, (kd.mono (by rw [List.length_append]; simp; omega)).congr fun k => ?_⟩
      rw [List.length_append, show old.length + 1 - (ys.length + [i].length) = i by simp; omega]
      unfold fT
      dsimp only [id]
      by_cases c3 : k.1 ≤ old.length ∧ k.2 ≤ new.length ∧ i ≤ k.1
      · rw [if_pos (by omega), if_pos (by omega)]
      · rw [if_neg (by omega), if_neg (by omega)]
  · rintro ρ' ⟨kvs, a, b, c, rfl, kd⟩
    have i := kd.ix key_nn (0, 0)
    have dl : (downTo (old.length + 1)).length = old.length + 1 := by unfold downTo; simp
    unfold fT at i
    rw [dl, if_pos (by simp)] at i
    have i' : ixF (.dict kvs) (.tuple [.int 0, .int 0]) = some (natK (cntN old new 0 0)) := i
    exact run_rt (r := (natK (cntN old new 0 0), coS old new kvs a b c)) (by simp [coS, i']) ⟨_, rfl, rfl⟩
end K24
end

section
namespace K24
open PySem DV
def kc (r : Row) : Nat := (r.filter fun p => decide (p.1 = .keep)).length
def maxL (l : List Nat) : Nat := l.foldl max 0
theorem fold_max_le : ∀ (l : List Nat) (a m : Nat), l.foldl max a ≤ m ↔ a ≤ m ∧ ∀ x ∈ l, x ≤ m
  | [], a, m => by simp
  | x :: l, a, m => by
    rw [List.foldl_cons, fold_max_le l]
    constructor
    · rintro ⟨h1, h2⟩
      refine ⟨by omega, fun y hy => ?_⟩
      rcases List.mem_cons.mp hy with rfl | hy
      · omega
      · exact h2 y hy
    · rintro ⟨h1, h2⟩
      have := h2 x List.mem_cons_self
      exact ⟨by omega, fun y hy => h2 y (List.mem_cons_of_mem _ hy)⟩
theorem maxL_le {l : List Nat} {m : Nat} : maxL l ≤ m ↔ ∀ x ∈ l, x ≤ m := by
  unfold maxL
  rw [fold_max_le]
  exact ⟨fun h => h.2, fun h => ⟨Nat.zero_le _, h⟩⟩
theorem nat_le_eq {a b : Nat} (h : ∀ m, a ≤ m ↔ b ≤ m) : a = b := by
  have h1 := (h b).mpr (Nat.le_refl _)
  have h2 := (h a).mp (Nat.le_refl _)
  omega
theorem most_fold : ∀ (xs : List Nat) (x : Nat), mostB (fun a b => decide (a < b)) x xs = xs.foldl max x
  | [], x => rfl
  | y :: xs, x => by
    have e : mostB (fun a b => decide (a < b)) x (y :: xs) = mostB (fun a b => decide (a < b)) (if decide (x < y) = true then y else x) xs := rfl
    rw [e, List.foldl_cons, most_fold xs]
    congr 1
    by_cases c : x < y
    · rw [if_pos (decide_eq_true c)]; omega
    · rw [if_neg (by simpa using c)]; omega
theorem max_nats (x : Nat) (xs : List Nat) : primF .max1 [.list ((x :: xs).map natK)] = some (natK (maxL (x :: xs))) := by
  have := bestF_max DO.nat (by omega) x xs
  rw [most_fold] at this
  have e : maxL (x :: xs) = xs.foldl max x := by
    unfold maxL
    rw [List.foldl_cons, Nat.zero_max]
  rw [e]
  exact this
def keptN (old new : List Str) (i j : Nat) : Nat := maxL ((rowsN old new i j).map kc)
theorem kc_keep (x : Str) (r : Row) : kc ((.keep, x) :: r) = kc r + 1 := rfl
theorem kc_strike (x : Str) (r : Row) : kc ((.strike, x) :: r) = kc r := rfl
theorem kc_put (x : Str) (r : Row) : kc ((.put, x) :: r) = kc r := rfl
theorem kept_le {old new : List Str} {i j m : Nat} : keptN old new i j ≤ m ↔ ∀ r ∈ rowsN old new i j, kc r ≤ m := by
  unfold keptN
  rw [maxL_le]
  exact ⟨fun h r hr => h _ (List.mem_map.mpr ⟨r, hr, rfl⟩), fun h x hx => by
    obtain ⟨r, hr, rfl⟩ := List.mem_map.mp hx
    exact h r hr⟩
def keptL (old new : List Str) (i j : Nat) : List Nat := [0] ++ (if i < old.length then [keptN old new (i + 1) j] else []) ++ (if j < new.length then [keptN old new i (j + 1)] else []) ++ (if i < old.length ∧ j < new.length ∧ old[i]? = new[j]? then [keptN old new (i + 1) (j + 1) + 1] else [])
theorem kept_eq (old new : List Str) {i j : Nat} (hi : i ≤ old.length) (hj : j ≤ new.length) : maxL (keptL old new i j) = keptN old new i j := by
  refine nat_le_eq fun m => ?_
  rw [maxL_le, kept_le]
  constructor
  · intro h r hr
    rcases (mem_rows old new).mp hr with ⟨_, _, rfl⟩ | ⟨x, s, e1, e2, rfl⟩ | ⟨x, s, e1, e2, rfl⟩ | ⟨x, s, e1, e2, e3, rfl⟩
    · exact Nat.zero_le _
    · have hl := (List.getElem?_eq_some_iff.mp e1).1
      rw [kc_strike]
      exact kept_le.mp (h _ (by unfold keptL; rw [if_pos hl]; simp)) s e2
    · have hl := (List.getElem?_eq_some_iff.mp e1).1
      rw [kc_put]
      exact kept_le.mp (h _ (by unfold keptL; rw [if_pos hl]; simp)) s e2
    · have hl := (List.getElem?_eq_some_iff.mp e1).1
      have hl2 := (List.getElem?_eq_some_iff.mp e2).1
      rw [kc_keep]
      have := h (keptN old new (i + 1) (j + 1) + 1) (by unfold keptL; rw [if_pos (show i < old.length ∧ j < new.length ∧ old[i]? = new[j]? from ⟨hl, hl2, by rw [e1, e2]⟩)]; simp)
      have := kept_le.mp (show keptN old new (i + 1) (j + 1) ≤ m - 1 by omega) s e3
      omega
  · intro h x hx
    unfold keptL at hx
    rw [List.mem_append, List.mem_append, List.mem_append] at hx
    rcases hx with ((hx | hx) | hx) | hx
    · rw [List.mem_singleton.mp hx]; exact Nat.zero_le _
    · by_cases c : i < old.length
      · rw [if_pos c] at hx
        rw [List.mem_singleton.mp hx, kept_le]
        intro s hs
        exact h ((.strike, old[i]) :: s) ((mem_rows old new).mpr (.inr (.inl ⟨_, s, List.getElem?_eq_getElem c, hs, rfl⟩)))
      · rw [if_neg c] at hx; cases hx
    · by_cases c : j < new.length
      · rw [if_pos c] at hx
        rw [List.mem_singleton.mp hx, kept_le]
        intro s hs
        exact h ((.put, new[j]) :: s) ((mem_rows old new).mpr (.inr (.inr (.inl ⟨_, s, List.getElem?_eq_getElem c, hs, rfl⟩))))
      · rw [if_neg c] at hx; cases hx
    · by_cases c : i < old.length ∧ j < new.length ∧ old[i]? = new[j]?
      · rw [if_pos c] at hx
        rw [List.mem_singleton.mp hx]
        have hx1 := List.getElem?_eq_getElem c.1
        have hk : ∀ s ∈ rowsN old new (i + 1) (j + 1), kc s + 1 ≤ m := fun s hs => by
          have := h ((.keep, old[i]'c.1) :: s) ((mem_rows old new).mpr (.inr (.inr (.inr ⟨old[i]'c.1, s, hx1, c.2.2.symm.trans hx1, hs, rfl⟩))))
          rw [kc_keep] at this
          exact this
        obtain ⟨s0, hs0⟩ := List.exists_mem_of_ne_nil _ (rows_ne old new (i + 1) (j + 1) (by omega) (by omega))
        have m1 := hk s0 hs0
        have := (kept_le (old := old) (new := new) (i := i + 1) (j := j + 1) (m := m - 1)).mpr fun s hs => by
          have := hk s hs
          omega
        omega
      · rw [if_neg c] at hx; cases hx
theorem kept_ok {n : Nat} {old new : List Str} (h1 : old.length ≤ 100) (h2 : new.length ≤ 100) : evF tab (n + 1) 10 [strT old, strT new] = some (natK (keptN old new 0 0), []) := by
  refine call_eq (fi := fi10) rfl [.sh (strT old), .sh (strT new)] rfl ?_
  show Run _ fi10.body [.sh (strT old), .sh (strT new), .no, .no, .no, .no] _
  unfold fi10
  have hsl : 2000000 ≤ sizeLine := by rw [sizeLine_eq]; decide
  have lo := len_strT old
  have ln := len_strT new
  refine run_nx (ρ' := coS old new [] .no .no .no) (by simp [coS, pairUp, dputs]) ?_
  refine run_forA (ρ' := coS old new [] .no .no .no) (downTo (old.length + 1)) natK (fun ys ρ => ∃ kvs a b c, ρ = coS old new kvs a b c ∧ KD prD kvs (fT (fun k => some (natK (keptN old new k.1 k.2))) id old.length new.length (old.length + 1 - ys.length) (new.length + 1)) (ys.length * 1000)) (by
    have r := rng_incl (n := old.length) (by omega)
    simp [coS, lo, r]) ⟨[], .no, .no, .no, rfl, KD.nil.congr fun k => by
      unfold fT
      rw [if_neg (by simp; omega)]⟩ ?_ ?_
  · rintro ys i zs ρ' hl ⟨kvs, a, b, c, rfl, kd⟩
    obtain ⟨q1, q2⟩ := down_at hl
    refine ⟨coS old new kvs (.sh (natK i)) b c, rfl, ?_⟩
    have e0 : old.length + 1 - ys.length = i + 1 := by omega
    rw [e0] at kd
    refine run_forA (ρ' := coS old new kvs (.sh (natK i)) b c) (downTo (new.length + 1)) natK (fun js ρ => ∃ kvs b c, ρ = coS old new kvs (.sh (natK i)) b c ∧ KD prD kvs (fT (fun k => some (natK (keptN old new k.1 k.2))) id old.length new.length (i + 1) (new.length + 1 - js.length)) (ys.length * 1000 + js.length)) (by
      have r := rng_incl (n := new.length) (by omega)
      simp [coS, ln, r]) ⟨kvs, b, c, rfl, kd.congr fun k => rfl⟩ ?_ ?_
    · rintro js j zs2 ρ' hl2 ⟨kvs, b, c, rfl, kd⟩
      obtain ⟨p1, p2⟩ := down_at hl2
      refine ⟨coS old new kvs (.sh (natK i)) (.sh (natK j)) c, rfl, ?_⟩
      have e1 : new.length + 1 - js.length = j + 1 := by omega
      rw [e1] at kd
      have hi : i ≤ old.length := by omega
      have hj : j ≤ new.length := by omega
      refine run_nx (ρ' := coS old new kvs (.sh (natK i)) (.sh (natK j)) (.ow (.list ([0].map natK)))) (by simp [coS]; rfl) ?_
      refine run_iteI (k := decide (i < old.length)) (ρ' := coS old new kvs (.sh (natK i)) (.sh (natK j)) (.ow (.list ([0].map natK)))) (fun ρ => ρ = coS old new kvs (.sh (natK i)) (.sh (natK j)) (.ow (.list (([0] ++ (if i < old.length then [keptN old new (i + 1) j] else [])).map natK)))) (by
        have : ((i : Int) < old.length) = (i < old.length) := by apply propext; omega
        simp [coS, natK, lo, this]) (fun hc => ?_) (fun hc => ?_) ?_
      · have hc := of_decide_eq_true hc
        rw [if_pos hc]
        have ix := kd.ix key_nn (i + 1, j)
        unfold fT at ix
        rw [if_pos (by simp; omega)] at ix
        have ix : ixF (.dict kvs) (.tuple [.int ((i : Int) + 1), .int (j : Int)]) = some (.int (keptN old new (i + 1) j : Nat)) := ix
        have z : 1 < sizeLine := by omega
        refine run_nx (ρ' := coS old new kvs (.sh (natK i)) (.sh (natK j)) (.ow (.list (([0] ++ [keptN old new (i + 1) j]).map natK)))) (by simp [coS, natK, ix, z]) (run_nil ⟨_, rfl, rfl⟩)
      · have hc := of_decide_eq_false hc
        rw [if_neg hc, List.append_nil]
        exact run_nil ⟨_, rfl, rfl⟩
      rintro ρ'' rfl
      have ke := kept_eq old new hi hj
      have hkl : keptL old new i j = [0] ++ (if i < old.length then [keptN old new (i + 1) j] else []) ++ (if j < new.length then [keptN old new i (j + 1)] else []) ++ (if i < old.length ∧ j < new.length ∧ old[i]? = new[j]? then [keptN old new (i + 1) (j + 1) + 1] else []) := rfl
      have lu : ([0] ++ (if i < old.length then [keptN old new (i + 1) j] else [])).length ≤ 2 := by split <;> simp
      generalize hu : [0] ++ (if i < old.length then [keptN old new (i + 1) j] else []) = u at hkl lu ⊢
      refine run_iteI (k := decide (j < new.length)) (ρ' := coS old new kvs (.sh (natK i)) (.sh (natK j)) (.ow (.list (u.map natK)))) (fun ρ => ρ = coS old new kvs (.sh (natK i)) (.sh (natK j)) (.ow (.list ((u ++ (if j < new.length then [keptN old new i (j + 1)] else [])).map natK)))) (by
        have : ((j : Int) < new.length) = (j < new.length) := by apply propext; omega
        generalize u.map natK = L
        simp [coS, natK, ln, this]) (fun hc => ?_) (fun hc => ?_) ?_
      · have hc := of_decide_eq_true hc
        rw [if_pos hc, List.map_append]
        have ix := kd.ix key_nn (i, j + 1)
        unfold fT at ix
        rw [if_pos (by simp; omega)] at ix
        have ix : ixF (.dict kvs) (.tuple [.int (i : Int), .int ((j : Int) + 1)]) = some (.int (keptN old new i (j + 1) : Nat)) := ix
        have z : (u.map natK).length < sizeLine := by rw [List.length_map]; omega
        generalize u.map natK = L at z ⊢
        refine run_nx (ρ' := coS old new kvs (.sh (natK i)) (.sh (natK j)) (.ow (.list (L ++ [keptN old new i (j + 1)].map natK)))) (by simp [coS, natK, ix, z]) (run_nil ⟨_, rfl, rfl⟩)
      · have hc := of_decide_eq_false hc
        rw [if_neg hc, List.append_nil]
        exact run_nil ⟨_, rfl, rfl⟩
      rintro ρ'' rfl
      have lv : (u ++ (if j < new.length then [keptN old new i (j + 1)] else [])).length ≤ 3 := by
        rw [List.length_append]
        have : (if j < new.length then [keptN old new i (j + 1)] else []).length ≤ 1 := by split <;> simp
        omega
      have hvh : ∃ t, u ++ (if j < new.length then [keptN old new i (j + 1)] else []) = 0 :: t := by
        rw [← hu]
        exact ⟨_, rfl⟩
      generalize u ++ (if j < new.length then [keptN old new i (j + 1)] else []) = v at hkl lv hvh ⊢
      refine run_iteI (k := decide (i < old.length ∧ j < new.length ∧ old[i]? = new[j]?)) (ρ' := coS old new kvs (.sh (natK i)) (.sh (natK j)) (.ow (.list (v.map natK)))) (fun ρ => ρ = coS old new kvs (.sh (natK i)) (.sh (natK j)) (.ow (.list ((keptL old new i j).map natK)))) (by
        generalize v.map natK = L
        by_cases ci : i < old.length
        · have d1 : (i : Int) < old.length := by omega
          have a1 : ixF (strT old) (.int i) = some (.str old[i]) := at_strT (List.getElem?_eq_getElem ci)
          by_cases cj : j < new.length
          · have d2 : (j : Int) < new.length := by omega
            have a2 : ixF (strT new) (.int j) = some (.str new[j]) := at_strT (List.getElem?_eq_getElem cj)
            rw [List.getElem?_eq_getElem ci, List.getElem?_eq_getElem cj]
            simp [coS, natK, lo, ln, d1, d2, a1, a2, ci, cj]
          · have d2 : ¬ (j : Int) < new.length := by omega
            have d3 : ¬ (i < old.length ∧ j < new.length ∧ old[i]? = new[j]?) := fun q => cj q.2.1
            rw [decide_eq_false d3]
            simp [coS, natK, lo, ln, d1, d2]
        · have d1 : ¬ (i : Int) < old.length := by omega
          have d3 : ¬ (i < old.length ∧ j < new.length ∧ old[i]? = new[j]?) := fun q => ci q.1
          rw [decide_eq_false d3]
          simp [coS, natK, lo, d1]) (fun hc => ?_) (fun hc => ?_) ?_
      · have hc := of_decide_eq_true hc
        rw [if_pos hc] at hkl
        have ix := kd.ix key_nn (i + 1, j + 1)
        unfold fT at ix
        rw [if_pos (by simp; omega)] at ix
        have ix : ixF (.dict kvs) (.tuple [.int ((i : Int) + 1), .int ((j : Int) + 1)]) = some (.int (keptN old new (i + 1) (j + 1) : Nat)) := ix
        have z : (v.map natK).length < sizeLine := by rw [List.length_map]; omega
        refine run_nx (ρ' := coS old new kvs (.sh (natK i)) (.sh (natK j)) (.ow (.list ((keptL old new i j).map natK)))) (by
          rw [hkl, List.map_append]
          generalize v.map natK = L at z ⊢
          simp [coS, natK, ix, z]) (run_nil ⟨_, rfl, rfl⟩)
      · have hc := of_decide_eq_false hc
        rw [if_neg hc, List.append_nil] at hkl
        rw [hkl]
        exact run_nil ⟨_, rfl, rfl⟩
      rintro ρ'' rfl
      obtain ⟨t, ht⟩ := hvh
      have mx := max_nats 0 (t ++ (if i < old.length ∧ j < new.length ∧ old[i]? = new[j]? then [keptN old new (i + 1) (j + 1) + 1] else []))
      have hk2 : 0 :: (t ++ (if i < old.length ∧ j < new.length ∧ old[i]? = new[j]? then [keptN old new (i + 1) (j + 1) + 1] else [])) = keptL old new i j := by
        rw [hkl, ht]
        rfl
      rw [hk2, ke] at mx
      obtain ⟨kvs2, s1, kd2⟩ := kd.set key_nn (i, j) (natK (keptN old new i j)) (by omega)
      have s1' : setIxF (.dict kvs) (.tuple [natK i, natK j]) (natK (keptN old new i j)) = some (.dict kvs2) := s1
      refine run_nx (ρ' := coS old new kvs2 (.sh (natK i)) (.sh (natK j)) (.ow (.list ((keptL old new i j).map natK)))) (by
        generalize (keptL old new i j).map natK = L at mx ⊢
        simp [coS, s1', -pr_max1, mx]) (run_nil ⟨kvs2, _, _, rfl, (kd2.mono (by rw [List.length_append]; simp; omega)).congr fun k => ?_⟩)
      rw [List.length_append, show new.length + 1 - (js.length + [j].length) = j by simp; omega]
      unfold fT
      dsimp only [id]
      by_cases c2 : k = (i, j)
      · subst c2
        rw [if_pos rfl, if_pos (by simp; omega)]
      · rw [if_neg c2]
        have c2' : ¬ (k.1 = i ∧ k.2 = j) := fun q => c2 (Prod.ext q.1 q.2)
        by_cases c3 : k.1 ≤ old.length ∧ k.2 ≤ new.length ∧ (i + 1 ≤ k.1 ∨ (k.1 + 1 = i + 1 ∧ j + 1 ≤ k.2))
        · rw [if_pos c3, if_pos (by omega)]
        · rw [if_neg c3, if_neg (by omega)]
    · rintro ρ' ⟨kvs, b, c, rfl, kd⟩
      have dl : (downTo (new.length + 1)).length = new.length + 1 := by unfold downTo; simp
      rw [dl, Nat.sub_self] at kd
      refine run_nil ⟨kvs, _, b, c, rfl, (kd.mono (by rw [List.length_append]; simp; omega)).congr fun k => ?_⟩
      rw [List.length_append, show old.length + 1 - (ys.length + [i].length) = i by simp; omega]
      unfold fT
      dsimp only [id]
      by_cases c3 : k.1 ≤ old.length ∧ k.2 ≤ new.length ∧ i ≤ k.1
      · rw [if_pos (by omega), if_pos (by omega)]
      · rw [if_neg (by omega), if_neg (by omega)]
  · rintro ρ' ⟨kvs, a, b, c, rfl, kd⟩
    have i := kd.ix key_nn (0, 0)
    have dl : (downTo (old.length + 1)).length = old.length + 1 := by unfold downTo; simp
    unfold fT at i
    rw [dl, if_pos (by simp)] at i
    have i' : ixF (.dict kvs) (.tuple [.int 0, .int 0]) = some (natK (keptN old new 0 0)) := i
    exact run_rt (r := (natK (keptN old new 0 0), coS old new kvs a b c)) (by simp [coS, i']) ⟨_, rfl, rfl⟩
end K24
end

section
namespace K24
open PySem DV
def tB (m : Nat) : D → Bool
  | .tuple xs => decide (xs.length = m)
  | _ => false
theorem tup_any {n m : Nat} (d : D) : evF tab (n + 1) 0 [d, .int (m : Int)] = some (.bool (tB m d), []) := by
  refine call_eq (fi := fi0) rfl [.sh d, .sh (.int (m : Int))] rfl ?_
  show Run _ fi0.body [.sh d, .sh (.int (m : Int))] _
  unfold fi0
  refine run_rt (r := (.bool (tB m d), [.sh d, .sh (.int (m : Int))])) ?_ ⟨_, rfl, rfl⟩
  cases d with
  | tuple xs =>
    have : (xs.length : Int) = m ↔ xs.length = m := by omega
    simp [tB, this]
  | _ => simp [tB]
def bO : Option Bool → Bool
  | some true => true
  | _ => false
theorem bO_some {o : Option Bool} {b : Bool} (h : o = some b) : o = some (bO o) := by
  subst h
  cases b <;> rfl
theorem notin_some (a w : Str) : ∃ b, cmpB .NotIn (.str a) (.str w) = some b := ⟨_, rfl⟩
theorem noteq_some (a w : Str) : ∃ b, cmpB .NotEq (.str a) (.str w) = some b := by
  rw [w_s18, eqSSw]
  exact ⟨_, rfl⟩
def wB : D → Bool
  | .str w => bO (cmpB .NotEq (.str w) (.str ⟨#[]⟩)) && (bO (cmpB .NotIn (.str ⟨#[32]⟩) (.str w)) && bO (cmpB .NotIn (.str ⟨#[10]⟩) (.str w)))
  | _ => false
theorem word_any {n : Nat} (d : D) : evF tab (n + 1) 1 [d] = some (.bool (wB d), []) := by
  refine call_eq (fi := fi1) rfl [.sh d] rfl ?_
  show Run _ fi1.body [.sh d] _
  unfold fi1
  refine run_rt (r := (.bool (wB d), [.sh d])) ?_ ⟨_, rfl, rfl⟩
  cases d with
  | str w =>
    obtain ⟨b1, h1⟩ := noteq_some w ⟨#[]⟩
    obtain ⟨b2, h2⟩ := notin_some ⟨#[32]⟩ w
    obtain ⟨b3, h3⟩ := notin_some ⟨#[10]⟩ w
    have hw : wB (.str w) = (bO (cmpB .NotEq (.str w) (.str ⟨#[]⟩)) && (bO (cmpB .NotIn (.str ⟨#[32]⟩) (.str w)) && bO (cmpB .NotIn (.str ⟨#[10]⟩) (.str w)))) := rfl
    rw [hw, h1, h2, h3]
    cases b1 with
    | false => simp [-w_s18, h1, bO]
    | true =>
      cases b2 with
      | false => simp [-w_s18, h1, h2, bO]
      | true => cases b3 <;> simp [-w_s18, h1, h2, h3, bO]
  | _ => simp [wB]
theorem all_bools {α : Type} (l : List α) (p : α → Bool) : primF .all [.list (l.map fun a => PyData.bool (p a))] = some (.bool (l.all p)) := by
  have : boolsOf (l.map fun a => PyData.bool (p a)) = some (l.map p) := by
    induction l with
    | nil => rfl
    | cons a l ih =>
      show (boolsOf (PyData.bool (p a) :: l.map fun a => PyData.bool (p a))) = _
      rw [List.map_cons]
      simp [boolsOf, ih]
  show (boolsOf (l.map fun a => PyData.bool (p a))).map _ = _
  rw [this]
  show some (PyData.bool ((l.map p).all id)) = _
  rw [List.all_map]
  rfl
theorem words_any {n : Nat} {xs : List D} (hl : xs.length ≤ 1000) : evF tab (n + 2) 2 [.tuple xs] = some (.bool (xs.all wB), []) := by
  refine call_eq (fi := fi2) rfl [.sh (.tuple xs)] rfl ?_
  show Run _ fi2.body [.sh (.tuple xs), .no] _
  unfold fi2
  have e1 : evE (evF tab (n + 1)) (.comp [1] (.nm 1) (.val (.var 0)) .nil (.call 1 (.cons (.var 1) .nil))) [.sh (.tuple xs), .no] = some (.list (xs.map fun x => PyData.bool (wB x)), [.sh (.tuple xs), .no]) := by
    refine comp_m xs id _ (by simp) rfl (by rw [sizeLine_eq]; omega) fun x hx => ⟨[.sh (.tuple xs), .sh x], by exact rfl, by exact rfl, ?_⟩
    have t := word_any (n := n) x
    simp [t]
  have a := all_bools xs wB
  refine run_rt (r := (.bool (xs.all wB), [.sh (.tuple xs), .no])) ?_ ⟨_, rfl, rfl⟩
  have e2 : evE (evF tab (n + 1)) (.prim .all (.cons (.comp [1] (.nm 1) (.val (.var 0)) .nil (.call 1 (.cons (.var 1) .nil))) .nil)) [.sh (.tuple xs), .no] = some (.bool (xs.all wB), [.sh (.tuple xs), .no]) := by
    rw [ev_prim, ops_comp, e1]
    generalize PyData.list (xs.map fun x => PyData.bool (wB x)) = l at a
    simp [-pr_all, a]
  have e0 : evE (evF tab (n + 1)) (.prim (.isi "tuple") (.cons (.var 0) .nil)) [.sh (.tuple xs), .no] = some (.bool true, [.sh (.tuple xs), .no]) := by simp
  rw [ev_and, e0]
  exact e2
theorem words_not {n : Nat} {d : D} (h : isiF "tuple" d = some (.bool false)) : evF tab (n + 1) 2 [d] = some (.bool false, []) := by
  refine call_eq (fi := fi2) rfl [.sh d] rfl ?_
  show Run _ fi2.body [.sh d, .no] _
  unfold fi2
  have h : primF (.isi "tuple") [d] = some (.bool false) := h
  refine run_rt (r := (.bool false, [.sh d, .no])) ?_ ⟨_, rfl, rfl⟩
  rw [ev_and]
  have e0 : evE (evF tab n) (.prim (.isi "tuple") (.cons (.var 0) .nil)) [.sh d, .no] = some (.bool false, [.sh d, .no]) := by
    rw [ev_prim]
    show ((primF (.isi "tuple") [d]).map fun d' => (d', _)) = _
    rw [h]
    rfl
  rw [e0]
  rfl
abbrev elE : IE := .and (.prim (.isi "str") (.cons (.prim .ix (.cons (.var 1) (.cons (.con (.int 0)) .nil))) .nil)) (.and (.prim (.cmp .In) (.cons (.prim .ix (.cons (.var 1) (.cons (.con (.int 0)) .nil))) (.cons (.glb (.tuple [(.str ⟨#[107, 101, 101, 112]⟩), (.str ⟨#[115, 116, 114, 105, 107, 101]⟩), (.str ⟨#[112, 117, 116]⟩)])) .nil))) (.call 1 (.cons (.prim .ix (.cons (.var 1) (.cons (.con (.int 1)) .nil))) .nil)))
def Elt (x : D) (b : Bool) : Prop := ∀ (n : Nat) (t : D), evE (evF tab (n + 1)) elE [.sh t, .sh x] = some (.bool b, [.sh t, .sh x])
theorem elt_str {k : Str} {b1 : Bool} {v : D} (h : cmpB .In (.str k) (.tuple [(.str ⟨#[107, 101, 101, 112]⟩), (.str ⟨#[115, 116, 114, 105, 107, 101]⟩), (.str ⟨#[112, 117, 116]⟩)]) = some b1) : Elt (.tuple [.str k, v]) (b1 && wB v) := by
  intro n t
  have w := word_any (n := n) v
  have a0 : L2.atI [PyData.str k, v] 0 = some (.str k) := rfl
  have a1 : L2.atI [PyData.str k, v] 1 = some v := rfl
  generalize wB v = b2 at w ⊢
  cases b1 with
  | false => simp [elE, a0, h]
  | true => cases b2 <;> simp [elE, a0, a1, h, w]
theorem elt_non {a v : D} (h : primF (.isi "str") [a] = some (.bool false)) : Elt (.tuple [a, v]) false := by
  intro n t
  have a0 : primF .ix [.tuple [a, v], .int 0] = some a := rfl
  have e0 : evE (evF tab (n + 1)) (.prim (.isi "str") (.cons (.prim .ix (.cons (.var 1) (.cons (.con (.int 0)) .nil))) .nil)) [.sh t, .sh (.tuple [a, v])] = some (.bool false, [.sh t, .sh (.tuple [a, v])]) := by
    rw [ev_prim, ops_prim, ev_prim]
    show (((((primF .ix [.tuple [a, v], .int 0]).map fun d => (d, _)).bind _).bind _)) = _
    rw [a0]
    show ((primF (.isi "str") [a]).map fun d' => (d', _)) = _
    rw [h]
    rfl
  unfold elE
  rw [ev_and, e0]
  rfl
theorem kd_in (k : Kd) : cmpB .In (.str (kdS k)) (.tuple [.str ⟨#[107, 101, 101, 112]⟩, .str ⟨#[115, 116, 114, 105, 107, 101]⟩, .str ⟨#[112, 117, 116]⟩]) = some true := by cases k <;> decide
theorem elt_mp (p : Kd × Str) : Elt (mpD p) (wB (.str p.2)) := by
  have := elt_str (v := .str p.2) (kd_in p.1)
  rw [Bool.true_and] at this
  exact this
theorem mended_any {n : Nat} {xs : List D} {q : D → Bool} (hl : xs.length ≤ 1000) (hq : xs.all (tB 2) = true → ∀ x ∈ xs, Elt x (q x)) : evF tab (n + 2) 3 [.tuple xs] = some (.bool (xs.all (tB 2) && xs.all q), []) := by
  refine call_eq (fi := fi3) rfl [.sh (.tuple xs)] rfl ?_
  show Run _ fi3.body [.sh (.tuple xs), .no] _
  unfold fi3
  have hsl : 2000000 ≤ sizeLine := by rw [sizeLine_eq]; decide
  have e1 : evE (evF tab (n + 1)) (.comp [1] (.nm 1) (.val (.var 0)) .nil (.call 0 (.cons (.var 1) (.cons (.con (.int 2)) .nil)))) [.sh (.tuple xs), .no] = some (.list (xs.map fun x => PyData.bool (tB 2 x)), [.sh (.tuple xs), .no]) := by
    refine comp_m xs id _ (by simp) rfl (by omega) fun p hp => ⟨[.sh (.tuple xs), .sh p], by exact rfl, by exact rfl, ?_⟩
    have t := tup_any (n := n) (m := 2) p
    have t : evF tab (n + 1) 0 [p, .int 2] = some (.bool (tB 2 p), []) := t
    simp [t]
  have a := all_bools xs (tB 2)
  have ee : evE (evF tab (n + 1)) (.prim .all (.cons (.comp [1] (.nm 1) (.val (.var 0)) .nil (.call 0 (.cons (.var 1) (.cons (.con (.int 2)) .nil)))) .nil)) [.sh (.tuple xs), .no] = some (.bool (xs.all (tB 2)), [.sh (.tuple xs), .no]) := by
    rw [ev_prim, ops_comp, e1]
    generalize PyData.list (xs.map fun x => PyData.bool (tB 2 x)) = l at a
    simp [-pr_all, a]
  have e0 : evE (evF tab (n + 1)) (.not (.prim (.isi "tuple") (.cons (.var 0) .nil))) [.sh (.tuple xs), .no] = some (.bool false, [.sh (.tuple xs), .no]) := by simp
  cases hb : xs.all (tB 2) with
  | false =>
    rw [hb] at ee
    refine run_ite (k := true) (ρ' := [.sh (.tuple xs), .no]) ?_ (fun _ => ?_) (fun q => nomatch q)
    · rw [ev_or, e0]
      refine Eq.trans (show _ = evE (evF tab (n + 1)) (.not (.prim .all (.cons (.comp [1] (.nm 1) (.val (.var 0)) .nil (.call 0 (.cons (.var 1) (.cons (.con (.int 2)) .nil)))) .nil))) [.sh (.tuple xs), .no] from rfl) ?_
      rw [ev_not, ee]
      rfl
    · exact run_rt (r := (.bool false, [.sh (.tuple xs), .no])) (by simp) ⟨_, rfl, rfl⟩
  | true =>
    rw [hb] at ee
    refine run_ite (k := false) (ρ' := [.sh (.tuple xs), .no]) ?_ (fun q => nomatch q) fun _ => run_nil ?_
    · rw [ev_or, e0]
      refine Eq.trans (show _ = evE (evF tab (n + 1)) (.not (.prim .all (.cons (.comp [1] (.nm 1) (.val (.var 0)) .nil (.call 0 (.cons (.var 1) (.cons (.con (.int 2)) .nil)))) .nil))) [.sh (.tuple xs), .no] from rfl) ?_
      rw [ev_not, ee]
      rfl
    · have e2 : evE (evF tab (n + 1)) (.comp [1] (.nm 1) (.val (.var 0)) .nil elE) [.sh (.tuple xs), .no] = some (.list (xs.map fun x => PyData.bool (q x)), [.sh (.tuple xs), .no]) :=
        comp_m xs id _ (by simp) rfl (by omega) fun p hp => ⟨[.sh (.tuple xs), .sh p], by exact rfl, by exact rfl, hq hb p hp n (.tuple xs)⟩
      have a2 := all_bools xs q
      rw [Bool.true_and]
      refine run_rt (r := (.bool (xs.all q), [.sh (.tuple xs), .no])) ?_ ⟨_, rfl, rfl⟩
      rw [ev_prim, ops_comp, e2]
      generalize PyData.list (xs.map fun x => PyData.bool (q x)) = l at a2
      simp [-pr_all, a2]
theorem mended_not {n : Nat} {d : D} (h : isiF "tuple" d = some (.bool false)) : evF tab (n + 1) 3 [d] = some (.bool false, []) := by
  refine call_eq (fi := fi3) rfl [.sh d] rfl ?_
  show Run _ fi3.body [.sh d, .no] _
  unfold fi3
  have h : primF (.isi "tuple") [d] = some (.bool false) := h
  have e0 : evE (evF tab n) (.prim (.isi "tuple") (.cons (.var 0) .nil)) [.sh d, .no] = some (.bool false, [.sh d, .no]) := by
    rw [ev_prim]
    show ((primF (.isi "tuple") [d]).map fun d' => (d', _)) = _
    rw [h]
    rfl
  refine run_ite (k := true) (ρ' := [.sh d, .no]) ?_ (fun _ => ?_) (fun q => nomatch q)
  · rw [ev_or, ev_not, e0]
    rfl
  · exact run_rt (r := (.bool false, [.sh d, .no])) (by simp) ⟨_, rfl, rfl⟩
end K24
end

section
namespace K24
open PySem DV
theorem mp_plain (p : Kd × Str) : (mpD p).plain = true := rfl
theorem in_mp (p : Kd × Str) (l : Row) : inF (mpD p) (mrD l) = some (decide (p ∈ l)) := (in_DO do_p (by omega) p l mp_plain).trans (by congr 1; exact decide_eq_decide.mpr Iff.rfl)
theorem len_mr (r : Row) : lenF (mrD r) = some (.int r.length) := by
  show some (PyData.int (r.map mpD).length) = _
  rw [List.length_map]
theorem at_mrx {r : Row} {k : Nat} {p : Kd × Str} (h : r[k]? = some p) : ixF (mrD r) (natK k) = some (mpD p) := atI_nat (by rw [List.getElem?_map, h]; rfl)
/-! a mend taken back -/
def standN (r : Row) (k : Nat) (p : Kd × Str) : Row := r.take k ++ (if p.1 = .put then [] else [(.keep, p.2)]) ++ r.drop (k + 1)
theorem cut_till (r : Row) (k : Nat) : slF none (some (k : Int)) (mrD r) = some (mrD (r.take k)) := by
  show some (PyData.tuple (cut (r.map mpD) none (some (k : Int)))) = _
  rw [cut_to, ← List.map_take]
  rfl
theorem cut_after (r : Row) (k : Nat) : slF (some ((k : Int) + 1)) none (mrD r) = some (mrD (r.drop (k + 1))) := by
  show some (PyData.tuple (cut (r.map mpD) (some (((k + 1 : Nat)) : Int)) none)) = _
  rw [cut_from, ← List.map_drop]
  rfl
theorem add_mr {a b : Row} (h : a.length + b.length ≤ 100000) : addF (mrD a) (mrD b) = some (mrD (a ++ b)) := by
  show (if (a.map mpD).length + (b.map mpD).length ≤ sizeLine then some (PyData.tuple (a.map mpD ++ b.map mpD)) else none) = _
  rw [if_pos (by rw [List.length_map, List.length_map, sizeLine_eq]; omega), ← List.map_append]
  rfl
abbrev keepE (i j : Nat) : IE := .ife (.prim (.cmp .Eq) (.cons (.var i) (.cons (.con (.str ⟨#[112, 117, 116]⟩)) .nil))) (.tup .nil) (.tup (.cons (.tup (.cons (.con (.str ⟨#[107, 101, 101, 112]⟩)) (.cons (.var j) .nil))) .nil))
theorem ownRow (p : Kd × Str) : (if p.1 = .put then PyData.tuple [] else .tuple [.tuple [.str ⟨#[107, 101, 101, 112]⟩, .str p.2]]) = mrD (if p.1 = .put then [] else [(.keep, p.2)]) := by
  by_cases c : p.1 = .put
  · rw [if_pos c, if_pos c]; rfl
  · rw [if_neg c, if_neg c]; rfl
theorem stand_ok {n : Nat} {r : Row} {k : Nat} {p : Kd × Str} (hl : r.length ≤ 1000) (h : r[k]? = some p) : evF tab (n + 1) 11 [mrD r, natK k] = some (mrD (standN r k p), []) := by
  refine call_eq (fi := fi11) rfl [.sh (mrD r), .sh (natK k)] rfl ?_
  show Run _ fi11.body [.sh (mrD r), .sh (natK k), .no, .no, .no] _
  unfold fi11
  have a := at_mrx h
  have e2 : eqF (.str (kdS p.1)) (.str ⟨#[112, 117, 116]⟩) = some (decide (p.1 = .put)) := by rw [eqSSw, kd_put]
  have hk := (List.getElem?_eq_some_iff.mp h).1
  refine run_nx (ρ' := [.sh (mrD r), .sh (natK k), .no, .sh (.str (kdS p.1)), .sh (.str p.2)]) (by
    have md : mpD p = .tuple [.str (kdS p.1), .str p.2] := rfl
    rw [md] at a
    simp [a]) ?_
  refine run_nx (ρ' := [.sh (mrD r), .sh (natK k), .sh (mrD (if p.1 = .put then [] else [(.keep, p.2)])), .sh (.str (kdS p.1)), .sh (.str p.2)]) (by
    rw [← ownRow p]
    generalize PyData.str (kdS p.1) = kk at e2
    by_cases c : p.1 = .put
    · rw [decide_eq_true c] at e2
      rw [if_pos c]
      simp [e2]
    · rw [decide_eq_false c] at e2
      rw [if_neg c]
      simp [e2]) ?_
  have c1 := cut_till r k
  have c2 := cut_after r k
  have hown : (if p.1 = .put then [] else [(Kd.keep, p.2)] : Row).length ≤ 1 := by
    by_cases c : p.1 = .put
    · rw [if_pos c]; exact Nat.zero_le _
    · rw [if_neg c]; exact Nat.le_refl _
  have d1 := add_mr (a := r.take k) (b := if p.1 = .put then [] else [(.keep, p.2)]) (by rw [List.length_take]; omega)
  have d2 := add_mr (a := r.take k ++ (if p.1 = .put then [] else [(.keep, p.2)])) (b := r.drop (k + 1)) (by rw [List.length_append, List.length_take, List.length_drop]; omega)
  have pk : partOf (natK k) = some (some (k : Int)) := rfl
  have pk1 : partOf (.int ((k : Int) + 1)) = some (some ((k : Int) + 1)) := rfl
  have ak : addF (natK k) (.int 1) = some (.int ((k : Int) + 1)) := rfl
  unfold standN
  generalize mrD (if p.1 = .put then [] else [(Kd.keep, p.2)]) = ow at *
  generalize mrD (r.take k ++ (if p.1 = .put then [] else [(Kd.keep, p.2)]) ++ r.drop (k + 1)) = res at *
  generalize natK k = kd at *
  exact run_rt (r := (res, [.sh (mrD r), .sh kd, .sh ow, .sh (.str (kdS p.1)), .sh (.str p.2)])) (by simp [pk, pk1, ak, c1, c2, d1, d2]) ⟨_, rfl, rfl⟩
/-! needless mends -/
def vainB (r : Row) (k : Nat) : Bool := match r[k]? with
  | some (.strike, w) => decide (r[k + 1]? = some (.put, w)) || (decide (1 ≤ k) && decide (r[k - 1]? = some (.put, w)))
  | _ => false
def vainN (r : Row) : List Nat := (List.range r.length).filter (vainB r)
def pairK (a b : Kd × Str) : Bool := ((decide (a.1 = .strike) && decide (b.1 = .put)) || (decide (a.1 = .put) && decide (b.1 = .strike))) && decide (a.2 = b.2)
def hitN (r : Row) (k : Nat) : List Nat := match r[k]?, r[k + 1]? with
  | some a, some b => if pairK a b = true then [if a.1 = .strike then k else k + 1] else []
  | _, _ => []
def foundN (r : Row) : List Nat := (List.range (r.length - 1)).flatMap (hitN r)
theorem vain_iff {r : Row} {k : Nat} : vainB r k = true ↔ ∃ w, r[k]? = some (.strike, w) ∧ (r[k + 1]? = some (.put, w) ∨ (1 ≤ k ∧ r[k - 1]? = some (.put, w))) := by
  unfold vainB
  cases h : r[k]? with
  | none => simp
  | some p =>
    obtain ⟨kd, w⟩ := p
    cases kd with
    | strike =>
      constructor
      · intro q
        refine ⟨w, rfl, ?_⟩
        simpa using q
      · rintro ⟨w', e, q⟩
        injection e with e
        injection e with _ e
        subst e
        simpa using q
    | keep =>
      refine ⟨(fun q => nomatch q), ?_⟩
      rintro ⟨w', e, _⟩
      injection e with e
      injection e with e _
      cases e
    | put =>
      refine ⟨(fun q => nomatch q), ?_⟩
      rintro ⟨w', e, _⟩
      injection e with e
      injection e with e _
      cases e
theorem pair_iff {a b : Kd × Str} : pairK a b = true ↔ ((a.1 = .strike ∧ b.1 = .put) ∨ (a.1 = .put ∧ b.1 = .strike)) ∧ a.2 = b.2 := by
  unfold pairK
  simp
theorem mem_hit {r : Row} {j k : Nat} : k ∈ hitN r j ↔ ∃ a b, r[j]? = some a ∧ r[j + 1]? = some b ∧ pairK a b = true ∧ k = (if a.1 = .strike then j else j + 1) := by
  unfold hitN
  cases h1 : r[j]? with
  | none => simp
  | some a =>
    cases h2 : r[j + 1]? with
    | none => simp
    | some b =>
      by_cases c : pairK a b = true
      · constructor
        · intro q
          have q : k ∈ (if pairK a b = true then [if a.1 = .strike then j else j + 1] else []) := q
          rw [if_pos c] at q
          exact ⟨a, b, rfl, rfl, c, List.mem_singleton.mp q⟩
        · rintro ⟨a', b', e1, e2, _, q⟩
          injection e1 with e1
          subst e1
          show k ∈ (if pairK a b = true then _ else [])
          rw [if_pos c]
          exact List.mem_singleton.mpr q
      · constructor
        · intro q
          have q : k ∈ (if pairK a b = true then [if a.1 = .strike then j else j + 1] else []) := q
          rw [if_neg c] at q
          cases q
        · rintro ⟨a', b', e1, e2, q, _⟩
          injection e1 with e1
          injection e2 with e2
          subst e1
          subst e2
          exact absurd q c
theorem found_vain (r : Row) (k : Nat) : k ∈ vainN r ↔ k ∈ foundN r := by
  unfold vainN foundN
  rw [List.mem_filter, List.mem_flatMap, vain_iff]
  constructor
  · rintro ⟨_, w, h1, h2 | ⟨h2, h3⟩⟩
    · have hk := (List.getElem?_eq_some_iff.mp h2).1
      refine ⟨k, List.mem_range.mpr (by omega), mem_hit.mpr ⟨(.strike, w), (.put, w), h1, h2, pair_iff.mpr ⟨.inl ⟨rfl, rfl⟩, rfl⟩, ?_⟩⟩
      rw [if_pos rfl]
    · have hk := (List.getElem?_eq_some_iff.mp h1).1
      refine ⟨k - 1, List.mem_range.mpr (by omega), mem_hit.mpr ⟨(.put, w), (.strike, w), h3, by rw [show k - 1 + 1 = k by omega]; exact h1, pair_iff.mpr ⟨.inr ⟨rfl, rfl⟩, rfl⟩, ?_⟩⟩
      rw [if_neg (fun q : Kd.put = Kd.strike => nomatch q)]
      omega
  · rintro ⟨j, _, hj⟩
    obtain ⟨a, b, h1, h2, hp, e⟩ := mem_hit.mp hj
    obtain ⟨hk, hw⟩ := pair_iff.mp hp
    obtain ⟨ka, wa⟩ := a
    obtain ⟨kb, wb⟩ := b
    dsimp only at hk hw e
    subst hw
    rcases hk with ⟨rfl, rfl⟩ | ⟨rfl, rfl⟩
    · rw [if_pos rfl] at e
      subst e
      exact ⟨List.mem_range.mpr (List.getElem?_eq_some_iff.mp h1).1, wa, h1, .inl h2⟩
    · rw [if_neg (by decide)] at e
      subst e
      refine ⟨List.mem_range.mpr (List.getElem?_eq_some_iff.mp h2).1, wa, h2, .inr ⟨by omega, ?_⟩⟩
      rw [show j + 1 - 1 = j by omega]
      exact h1
theorem kinds_in (a b : Kd) : cmpB .In (.tuple [.str (kdS a), .str (kdS b)]) (.tuple [.tuple [.str ⟨#[115, 116, 114, 105, 107, 101]⟩, .str ⟨#[112, 117, 116]⟩], .tuple [.str ⟨#[112, 117, 116]⟩, .str ⟨#[115, 116, 114, 105, 107, 101]⟩]]) = some ((decide (a = .strike) && decide (b = .put)) || (decide (a = .put) && decide (b = .strike))) := by
  cases a <;> cases b <;> decide
def neS (r : Row) (found : List Nat) (a b : Sl) : Ro := [.sh (mrD r), .ow (.list (found.map natK)), a, b]
theorem needless_ok {n : Nat} {r : Row} (hl : r.length ≤ 1000) : evF tab (n + 1) 12 [mrD r] = some (.tuple ((vainN r).map natK), []) := by
  refine call_eq (fi := fi12) rfl [.sh (mrD r)] rfl ?_
  show Run _ fi12.body [.sh (mrD r), .no, .no, .no] _
  unfold fi12
  have hsl : 2000000 ≤ sizeLine := by rw [sizeLine_eq]; decide
  have ln := len_mr r
  refine run_nx (ρ' := neS r [] .no .no) (by simp [neS]) ?_
  have flen : ∀ l : List Nat, (l.flatMap (hitN r)).length ≤ l.length := fun l => by
    induction l with
    | nil => exact Nat.le_refl _
    | cons a l ih =>
      rw [List.flatMap_cons, List.length_append, List.length_cons]
      have : (hitN r a).length ≤ 1 := by
        unfold hitN
        split
        · split
          · exact Nat.le_refl _
          · exact Nat.zero_le _
        · exact Nat.zero_le _
      omega
  refine run_forA (ρ' := neS r [] .no .no) (List.range (r.length - 1)) natK (fun ys ρ => ∃ a b, ρ = neS r (ys.flatMap (hitN r)) a b) ?_ ⟨.no, .no, rfl⟩ ?_ ?_
  · have rr : rngF [.int ((r.length : Int) - 1)] = some ((List.range (r.length - 1)).map natK) := by
      have r2 : rngIn ((r.length : Int) - 1) = true := by unfold rngIn; exact decide_eq_true (by omega)
      have : ((r.length : Int) - 1).toNat = r.length - 1 := by omega
      simp only [rngF, r2, if_true, this]
      rw [rangeI_up]
      rfl
    simp [neS, ln, rr]
  · rintro ys k zs ρ' hl2 ⟨a, b, rfl⟩
    obtain ⟨q1, rfl⟩ := range_at hl2
    generalize hk : ys.length = k at *
    have h1 : r[k]? = some r[k] := List.getElem?_eq_getElem (by omega)
    have h2 : r[k + 1]? = some r[k + 1] := List.getElem?_eq_getElem (by omega)
    have hit : hitN r k = if pairK r[k] r[k + 1] = true then [if r[k].1 = .strike then k else k + 1] else [] := by
      unfold hitN
      rw [h1, h2]
    generalize r[k] = p at h1 hit
    generalize r[k + 1] = q at h2 hit
    have a1 := at_mrx h1
    have a2 := at_mrx h2
    have b0 : ixF (mpD p) (.int 0) = some (.str (kdS p.1)) := rfl
    have b1 : ixF (mpD p) (.int 1) = some (.str p.2) := rfl
    have c0 : ixF (mpD q) (.int 0) = some (.str (kdS q.1)) := rfl
    have c1 : ixF (mpD q) (.int 1) = some (.str q.2) := rfl
    have ak : addF (natK k) (.int 1) = some (natK (k + 1)) := rfl
    have fl := flen ys
    rw [hk] at fl
    refine ⟨neS r (ys.flatMap (hitN r)) (.sh (natK k)) b, rfl, ?_⟩
    have fa : (ys ++ [k]).flatMap (hitN r) = ys.flatMap (hitN r) ++ hitN r k := by rw [List.flatMap_append]; simp
    rw [fa]
    generalize ys.flatMap (hitN r) = found at fl ⊢
    refine run_nx (ρ' := neS r found (.sh (natK k)) (.sh (.tuple [.str (kdS p.1), .str (kdS q.1)]))) (by
      generalize mpD p = mp at *
      generalize mpD q = mq at *
      generalize natK k = kd at *
      generalize natK (k + 1) = kd1 at *
      simp [neS, a1, a2, b0, c0, ak]) ?_
    have ki := kinds_in p.1 q.1
    have ew := eqSSw p.2 q.2
    refine run_iteI (k := pairK p q) (ρ' := neS r found (.sh (natK k)) (.sh (.tuple [.str (kdS p.1), .str (kdS q.1)]))) (fun ρ => ∃ a b, ρ = neS r (found ++ hitN r k) a b) ?_ (fun hc => ?_) (fun hc => ?_) (fun ρ h => run_nil h)
    · have hb : pairK p q = (((decide (p.1 = .strike) && decide (q.1 = .put)) || (decide (p.1 = .put) && decide (q.1 = .strike))) && decide (p.2 = q.2)) := rfl
      rw [hb]
      generalize ((decide (p.1 = .strike) && decide (q.1 = .put)) || (decide (p.1 = .put) && decide (q.1 = .strike))) = bb at *
      generalize PyData.str (kdS p.1) = kp at *
      generalize PyData.str (kdS q.1) = kq at *
      generalize mpD p = mp at *
      generalize mpD q = mq at *
      generalize natK k = kd at *
      generalize natK (k + 1) = kd1 at *
      have ki : inF (.tuple [kp, kq]) (.tuple [.tuple [.str ⟨#[115, 116, 114, 105, 107, 101]⟩, .str ⟨#[112, 117, 116]⟩], .tuple [.str ⟨#[112, 117, 116]⟩, .str ⟨#[115, 116, 114, 105, 107, 101]⟩]]) = some bb := ki
      cases bb with
      | false => simp [neS, ki]
      | true => simp [neS, ki, a1, a2, b1, c1, ak]
    · rw [hit, if_pos hc]
      have e2 : eqF (.str (kdS p.1)) (.str ⟨#[115, 116, 114, 105, 107, 101]⟩) = some (decide (p.1 = .strike)) := by rw [eqSSw, kd_strike]
      have hz : (found.map natK).length < sizeLine := by rw [List.length_map]; omega
      refine run_nx (ρ' := neS r (found ++ [if p.1 = .strike then k else k + 1]) (.sh (natK k)) (.sh (.tuple [.str (kdS p.1), .str (kdS q.1)]))) ?_ (run_nil ⟨_, rfl, _, _, rfl⟩)
      have g0 : L2.atI [PyData.str (kdS p.1), PyData.str (kdS q.1)] 0 = some (.str (kdS p.1)) := rfl
      unfold neS
      rw [List.map_append]
      generalize found.map natK = L at hz ⊢
      generalize PyData.str (kdS p.1) = kp at *
      generalize PyData.str (kdS q.1) = kq at *
      by_cases c : p.1 = .strike
      · rw [decide_eq_true c] at e2
        rw [if_pos c]
        have e3 : [k].map natK = [natK k] := rfl
        rw [e3]
        generalize natK k = kd at *
        simp [g0, e2, hz]
      · rw [decide_eq_false c] at e2
        rw [if_neg c]
        have e3 : [k + 1].map natK = [natK (k + 1)] := rfl
        rw [e3]
        generalize natK (k + 1) = kd1 at *
        generalize natK k = kd at *
        simp [g0, e2, hz, ak]
    · rw [hit, if_neg (by rw [hc]; decide), List.append_nil]
      exact run_nil ⟨_, rfl, _, _, rfl⟩
  · rintro ρ' ⟨a, b, rfl⟩
    have ss := sset_nats (l := foundN r) (m := vainN r) (by
      have := flen (List.range (r.length - 1))
      rw [List.length_range] at this
      show ((List.range (r.length - 1)).flatMap (hitN r)).length ≤ 4000
      omega) (fun x => found_vain r x) (List.Pairwise.filter _ List.pairwise_lt_range)
    refine run_rt (r := (.tuple ((vainN r).map natK), neS r (foundN r) a b)) ?_ ⟨_, rfl, rfl⟩
    show evE _ _ (neS r (foundN r) a b) = _
    unfold neS
    generalize (foundN r).map natK = L at ss ⊢
    generalize (vainN r).map natK = M at ss ⊢
    have e1 : ∀ C : Call, evE C (.prim .sortedSet (.cons (.own 1) .nil)) [.sh (mrD r), .ow (.list L), a, b] = some (.list M, [.sh (mrD r), .ow (.list L), a, b]) := fun C => by
      rw [ev_prim]
      show ((primF .sortedSet [.list L]).map fun d => (d, _)) = _
      rw [ss]
      rfl
    rw [ev_prim, ops_prim, e1]
    simp
end K24
end

section
namespace K24
open PySem DV
/-! the text of a mended text -/
def sgA : Kd → Str
  | .keep => ⟨#[]⟩
  | .strike => ⟨#[91]⟩
  | .put => ⟨#[123]⟩
def sgB : Kd → Str
  | .keep => ⟨#[]⟩
  | .strike => ⟨#[93]⟩
  | .put => ⟨#[125]⟩
def txN (p : Kd × Str) : Str := sgA p.1 ++ p.2 ++ sgB p.1
def prN (r : Row) : Str := Str.join ⟨#[32]⟩ (r.map txN)
theorem app_nil (w : Str) : (⟨#[]⟩ : Str) ++ w ++ (⟨#[]⟩ : Str) = w := by
  cases w with
  | mk a =>
    show (⟨#[] ++ a ++ #[]⟩ : Str) = ⟨a⟩
    simp
theorem app_len (a b : Str) : (a ++ b).length = a.length + b.length := by
  cases a with
  | mk a =>
    cases b with
    | mk b =>
      show (a ++ b).size = a.size + b.size
      exact Array.size_append
theorem sg_len (k : Kd) : (sgA k).length ≤ 1 ∧ (sgB k).length ≤ 1 := by cases k <;> decide
theorem tx_len {p : Kd × Str} (h : p.2.length ≤ 100) : (txN p).length ≤ 102 := by
  unfold txN
  rw [app_len, app_len]
  have := sg_len p.1
  omega
theorem sum_le (l : List Nat) (m : Nat) (h : ∀ x ∈ l, x ≤ m) : l.sum ≤ l.length * m := by
  induction l with
  | nil => exact Nat.zero_le _
  | cons a l ih =>
    have h1 := h a List.mem_cons_self
    have h2 := ih fun x hx => h x (List.mem_cons_of_mem _ hx)
    rw [List.sum_cons, List.length_cons, Nat.add_mul]
    omega
theorem join_txs {r : Row} (hl : r.length ≤ 1000) (hw : ∀ p ∈ r, p.2.length ≤ 100) : primF .join [.str ⟨#[32]⟩, .list ((r.map txN).map .str)] = some (.str (prN r)) := by
  show (strsOf ((r.map txN).map .str)).bind (joinF ⟨#[32]⟩) = _
  rw [strsOf_map3]
  show joinF ⟨#[32]⟩ (r.map txN) = _
  unfold joinF
  rw [if_pos]
  · rfl
  unfold joinLen
  have h1 := sum_le ((r.map txN).map Str.length) 102 fun x hx => by
    obtain ⟨s, hs, rfl⟩ := List.mem_map.mp hx
    obtain ⟨p, hp, rfl⟩ := List.mem_map.mp hs
    exact tx_len (hw p hp)
  rw [List.length_map, List.length_map] at h1
  rw [List.length_map]
  have : (⟨#[32]⟩ : Str).length = 1 := rfl
  rw [this, sizeLine_eq]
  omega
def sgD : D := .dict [(.str ⟨#[107, 101, 101, 112]⟩, .tuple [.str ⟨#[]⟩, .str ⟨#[]⟩]), (.str ⟨#[115, 116, 114, 105, 107, 101]⟩, .tuple [.str ⟨#[91]⟩, .str ⟨#[93]⟩]), (.str ⟨#[112, 117, 116]⟩, .tuple [.str ⟨#[123]⟩, .str ⟨#[125]⟩])]
theorem sg_at (k : Kd) : ixF sgD (.str (kdS k)) = some (.tuple [.str (sgA k), .str (sgB k)]) := by cases k <;> rfl
theorem add_str {a b : Str} (h : a.length + b.length ≤ 1000) : addF (.str a) (.str b) = some (.str (a ++ b)) := by
  show (if a.length + b.length ≤ sizeLine then some (PyData.str (a ++ b)) else none) = _
  rw [if_pos (by rw [sizeLine_eq]; omega)]
theorem print_ok {n : Nat} {r : Row} (hl : r.length ≤ 1000) (hw : ∀ p ∈ r, p.2.length ≤ 100) : evF tab (n + 1) 13 [mrD r] = some (.str (prN r), []) := by
  refine call_eq (fi := fi13) rfl [.sh (mrD r)] rfl ?_
  show Run _ fi13.body [.sh (mrD r), .no, .no, .no] _
  unfold fi13
  have hsl : 2000000 ≤ sizeLine := by rw [sizeLine_eq]; decide
  refine run_nx (ρ' := [.sh (mrD r), .sh sgD, .no, .no]) (by
    have d1 : dputF [] (PyData.str ⟨#[107, 101, 101, 112]⟩) (.tuple [.str ⟨#[]⟩, .str ⟨#[]⟩]) = some [(.str ⟨#[107, 101, 101, 112]⟩, .tuple [.str ⟨#[]⟩, .str ⟨#[]⟩])] := rfl
    have d2 : dputF [((.str ⟨#[107, 101, 101, 112]⟩ : D), (.tuple [.str ⟨#[]⟩, .str ⟨#[]⟩] : D))] (PyData.str ⟨#[115, 116, 114, 105, 107, 101]⟩) (.tuple [.str ⟨#[91]⟩, .str ⟨#[93]⟩]) = some [(.str ⟨#[107, 101, 101, 112]⟩, .tuple [.str ⟨#[]⟩, .str ⟨#[]⟩]), (.str ⟨#[115, 116, 114, 105, 107, 101]⟩, .tuple [.str ⟨#[91]⟩, .str ⟨#[93]⟩])] := rfl
    have d3 : dputF [((.str ⟨#[107, 101, 101, 112]⟩ : D), (.tuple [.str ⟨#[]⟩, .str ⟨#[]⟩] : D)), (.str ⟨#[115, 116, 114, 105, 107, 101]⟩, .tuple [.str ⟨#[91]⟩, .str ⟨#[93]⟩])] (PyData.str ⟨#[112, 117, 116]⟩) (.tuple [.str ⟨#[123]⟩, .str ⟨#[125]⟩]) = some [(.str ⟨#[107, 101, 101, 112]⟩, .tuple [.str ⟨#[]⟩, .str ⟨#[]⟩]), (.str ⟨#[115, 116, 114, 105, 107, 101]⟩, .tuple [.str ⟨#[91]⟩, .str ⟨#[93]⟩]), (.str ⟨#[112, 117, 116]⟩, .tuple [.str ⟨#[123]⟩, .str ⟨#[125]⟩])] := rfl
    have at1 : ∀ s : Str, (atomK (PyData.str s)).isSome = true := fun _ => rfl
    simp [pairUp, dputs, sgD, d1, d2, d3, at1]) ?_
  have e1 : evE (evF tab n) (.comp [2, 3] (.tp (.cons (.nm 2) (.cons (.nm 3) .nil))) (.val (.var 0)) .nil (.prim (.bin .Add) (.cons (.prim (.bin .Add) (.cons (.prim .ix (.cons (.prim .ix (.cons (.var 1) (.cons (.var 2) .nil))) (.cons (.con (.int 0)) .nil))) (.cons (.var 3) .nil))) (.cons (.prim .ix (.cons (.prim .ix (.cons (.var 1) (.cons (.var 2) .nil))) (.cons (.con (.int 1)) .nil))) .nil)))) [.sh (mrD r), .sh sgD, .no, .no] = some (.list ((r.map txN).map .str), [.sh (mrD r), .sh sgD, .no, .no]) := by
    rw [List.map_map]
    refine comp_m r mpD _ (by simp [mrD]) rfl (by omega) fun p hp => ⟨[.sh (mrD r), .sh sgD, .sh (.str (kdS p.1)), .sh (.str p.2)], by exact rfl, by exact rfl, ?_⟩
    have g := sg_at p.1
    have g0 : L2.atI [PyData.str (sgA p.1), PyData.str (sgB p.1)] 0 = some (.str (sgA p.1)) := rfl
    have g1 : L2.atI [PyData.str (sgA p.1), PyData.str (sgB p.1)] 1 = some (.str (sgB p.1)) := rfl
    have l := sg_len p.1
    have lw := hw p hp
    have a1 := add_str (a := sgA p.1) (b := p.2) (by omega)
    have a2 := add_str (a := sgA p.1 ++ p.2) (b := sgB p.1) (by rw [app_len]; omega)
    have tx : (PyData.str ∘ txN) p = .str (sgA p.1 ++ p.2 ++ sgB p.1) := rfl
    rw [tx]
    generalize PyData.str (sgA p.1 ++ p.2 ++ sgB p.1) = res at *
    generalize PyData.str (sgA p.1 ++ p.2) = mid at *
    generalize PyData.str (sgA p.1) = sa at *
    generalize PyData.str (sgB p.1) = sb at *
    generalize PyData.str (kdS p.1) = kk at *
    generalize sgD = sg at *
    simp [g, g0, g1, a1, a2]
  have j := join_txs hl hw
  refine run_rt (r := (.str (prN r), [.sh (mrD r), .sh sgD, .no, .no])) ?_ ⟨_, rfl, rfl⟩
  rw [ev_prim, ops_con, ev_con]
  simp only [Option.bind_some, ops_comp, e1, ops_nil, Option.map_some]
  generalize PyData.list ((r.map txN).map .str) = L at j
  rw [j]
  rfl
/-! the least of all -/
theorem rows_min {old new : List Str} {line : Nat} {rows : List Row} {b : Nat × Row} (hp : rows.Perm (rowsN old new 0 0)) (hb : bestN old new line 0 0 false = some b) : primF .min1 [.list (rows.map fun r => cdD (inkN line false r, r))] = some (cdD b) := by
  have hm : ∀ x, x ∈ rows.map (fun r => (inkN line false r, r)) ↔ x ∈ allC old new line 0 0 false := fun x => (hp.map _).mem_iff
  have e : leastO (rows.map fun r => (inkN line false r, r)) = some b := by
    rw [leastO_perm hm]
    exact hb
  have hml : rows.map (fun r => cdD (inkN line false r, r)) = (rows.map fun r => (inkN line false r, r)).map cdD := by rw [List.map_map]; rfl
  rw [hml]
  cases h : rows.map (fun r => (inkN line false r, r)) with
  | nil =>
    rw [h] at e
    cases e
  | cons x xs =>
    rw [h] at e
    injection e with e
    rw [min_DO do_c (by omega) x xs, e]
theorem rows_kept {old new : List Str} {rows : List Row} (hp : rows.Perm (rowsN old new 0 0)) (hne : rows ≠ []) : primF .max1 [.list ((rows.map kc).map natK)] = some (natK (keptN old new 0 0)) := by
  have e : maxL (rows.map kc) = keptN old new 0 0 := nat_le_eq fun m => by
    unfold keptN
    rw [maxL_le, maxL_le]
    exact ⟨fun h x hx => h x ((hp.map kc).mem_iff.mpr hx), fun h x hx => h x ((hp.map kc).mem_iff.mp hx)⟩
  rw [← e]
  cases h : rows.map kc with
  | nil => exact absurd (List.map_eq_nil_iff.mp h) hne
  | cons x xs => exact max_nats x xs
theorem allR_ne (old new : List Str) : allR old new ≠ [] := fun q => by
  have hp := allR_perm old new
  rw [q] at hp
  exact rows_ne _ _ 0 0 (Nat.zero_le _) (Nat.zero_le _) hp.nil_eq.symm
theorem allR_row {old new : List Str} {r : Row} (h1 : old.length ≤ 4) (h2 : new.length ≤ 4) (h : r ∈ allR old new) : aheadN r = old ∧ behindN r = new ∧ r.length ≤ 8 := by
  obtain ⟨ra, rb, rl⟩ := row_texts _ _ 0 0 (Nat.zero_le _) (Nat.zero_le _) r ((allR_perm old new).mem_iff.mp h)
  exact ⟨ra, rb, by omega⟩
theorem lawleast_ok {n line : Nat} {old new : List Str} {b : Nat × Row} (h1 : old.length ≤ 4) (h2 : new.length ≤ 4) (hline : line ≤ 1000) (hb : bestN old new line 0 0 false = some b) : evF tab (n + 2) 21 [strT old, strT new, natK line] = some (cdD b, []) := by
  refine call_eq (fi := fi21) rfl [.sh (strT old), .sh (strT new), .sh (natK line)] rfl ?_
  show Run _ fi21.body [.sh (strT old), .sh (strT new), .sh (natK line), .no] _
  unfold fi21
  have hsl : 2000000 ≤ sizeLine := by rw [sizeLine_eq]; decide
  have la := lawall_ok (n := n) h1 h2
  have al := allR_len h1 h2
  have mn := rows_min (allR_perm old new) hb
  have e1 : evE (evF tab (n + 1)) (.comp [3] (.nm 3) (.val (.call 20 (.cons (.var 0) (.cons (.var 1) .nil)))) .nil (.tup (.cons (.call 19 (.cons (.var 3) (.cons (.var 2) .nil))) (.cons (.var 3) .nil)))) [.sh (strT old), .sh (strT new), .sh (natK line), .no] = some (.list ((allR old new).map fun r => cdD (inkN line false r, r)), [.sh (strT old), .sh (strT new), .sh (natK line), .no]) := by
    refine comp_m (allR old new) mrD _ (by simp [la]) rfl (by omega) fun r hr => ⟨[.sh (strT old), .sh (strT new), .sh (natK line), .sh (mrD r)], by exact rfl, by exact rfl, ?_⟩
    have l := lawink_ok (n := n) (line := line) (r := r) (by have := (allR_row h1 h2 hr).2.2; omega) hline
    simp [l, cdD]
  refine run_rt (r := (cdD b, [.sh (strT old), .sh (strT new), .sh (natK line), .no])) ?_ ⟨_, rfl, rfl⟩
  rw [ev_prim, ops_comp, e1]
  generalize PyData.list ((allR old new).map fun r => cdD (inkN line false r, r)) = L at mn
  simp [-pr_min1, mn]
/-! the law's helpers -/
theorem same24 {n : Nat} (d : D) (ha : alD d = true) (hd : dpD d ≤ 20) (hz : szD d ≤ 1000000) : evF tab (n + 1) 16 [d, d] = some (.bool true, []) := same16_ok rfl d ha hd hz
theorem next24 {n : Nat} (ds : List Int) (k m : Nat) (hm : 0 < m) : ∃ r k' : Nat, r < m ∧ evF tab (n + 1) 15 [wN ds k, .int m] = some (natK r, [wN ds k']) := nextN (T := tab) (f := 15) rfl ds k m hm
theorem pick24 {n : Nat} (ds : List Int) (k : Nat) (rows : List D) (hr : rows ≠ []) : ∃ (x : D) (k' : Nat), x ∈ rows ∧ evF tab (n + 2) 17 [wN ds k, .list rows] = some (x, [wN ds k']) := pickN (T := tab) (f := 17) (nx := 15) rfl rfl ds k rows hr
def wordL : List Str := [⟨#[97]⟩, ⟨#[98]⟩, ⟨#[97, 98]⟩, ⟨#[99, 100, 101]⟩]
theorem word_L {w : Str} (h : w ∈ wordL) : wB (.str w) = true ∧ w.length ≤ 100 := by
  simp only [wordL, List.mem_cons, List.not_mem_nil, or_false] at h
  rcases h with rfl | rfl | rfl | rfl <;> exact ⟨by decide +kernel, by decide⟩
theorem rng_nat {m : Nat} (h : m ≤ 100000) : rngF [.int (m : Int)] = some ((List.range m).map natK) := by
  have r2 : rngIn (m : Int) = true := by unfold rngIn; exact decide_eq_true (by omega)
  have : (m : Int).toNat = m := by omega
  simp only [rngF, r2, if_true, this]
  rw [rangeI_up]
  rfl
theorem text_ok {n : Nat} (ds : List Int) (k m : Nat) (hm : m ≤ 100) : ∃ (ws : List Str) (k' : Nat), ws.length ≤ m ∧ (∀ w ∈ ws, w ∈ wordL) ∧ evF tab (n + 3) 18 [wN ds k, natK m] = some (strT ws, [wN ds k']) := by
  obtain ⟨q, k1, hq, e1⟩ := next24 (n := n + 1) ds k (m + 1) (by omega)
  have rr := rng_nat (m := q) (by omega)
  have rr : rngF [natK q] = some ((List.range q).map natK) := rr
  have am : addF (natK m) (.int 1) = some (.int ((m + 1 : Nat) : Int)) := rfl
  obtain ⟨ws, k2, wl, ww, e2⟩ := comp_draw0 (C := evF tab (n + 2)) (v := 1) (it := .rng (.cons (.call 15 (.cons (.io 0) (.cons (.prim (.bin .Add) (.cons (.var 1) (.cons (.con (.int 1)) .nil))) .nil))) .nil)) (elt := .call 17 (.cons (.io 0) (.cons (.lst (.cons (.con (.str ⟨#[97]⟩)) (.cons (.con (.str ⟨#[98]⟩)) (.cons (.con (.str ⟨#[97, 98]⟩)) (.cons (.con (.str ⟨#[99, 100, 101]⟩)) .nil))))) .nil))) (ρ := .ow (wN ds k) :: [.sh (natK m), .no]) (xs := (List.range q).map natK) (ds := ds) (k := k1) (r := [.sh (natK m), .no]) PyData.str (fun a => a ∈ wordL) (by
      generalize ((m + 1 : Nat) : Int) = mi at am e1
      generalize natK m = md at am
      simp [am, e1, rr]) rfl (by rw [List.length_map, List.length_range, sizeLine_eq]; omega) (by simp) (fun x hx k => by
    obtain ⟨q, k', hq, e⟩ := pick24 (n := n) ds k (wordL.map .str) (by decide)
    obtain ⟨w, hw, rfl⟩ := List.mem_map.mp hq
    have e' : evF tab (n + 2) 17 [wN ds k, .list [.str ⟨#[97]⟩, .str ⟨#[98]⟩, .str ⟨#[97, 98]⟩, .str ⟨#[99, 100, 101]⟩]] = some (.str w, [wN ds k']) := e
    exact ⟨w, k', by simp [e'], hw⟩)
  rw [List.length_map, List.length_range] at wl
  refine ⟨ws, k2, by omega, ww, ?_⟩
  refine call_eq (fi := fi18) rfl [.ow (wN ds k), .sh (natK m)] rfl ?_
  show Run _ fi18.body [.ow (wN ds k), .sh (natK m), .no] _
  unfold fi18
  refine run_rt (r := (strT ws, .ow (wN ds k2) :: [.sh (natK m), .no])) ?_ ⟨_, rfl, rfl⟩
  rw [ev_prim, ops_comp, e2]
  rfl
end K24
end

section
namespace K24
open PySem DV
def sK : D := .str ⟨#[107, 101, 101, 112]⟩
def sS : D := .str ⟨#[115, 116, 114, 105, 107, 101]⟩
def sP : D := .str ⟨#[112, 117, 116]⟩
def oddL : List D := [.tuple [.str ⟨#[75, 101, 101, 112]⟩, .str ⟨#[97]⟩], .tuple [sK, .str ⟨#[]⟩], .tuple [sK, .str ⟨#[97, 32, 98]⟩], .tuple [sP, .str ⟨#[97, 10]⟩], .tuple [sK], .tuple [sK, .str ⟨#[97]⟩, .str ⟨#[98]⟩], .list [sK, .str ⟨#[97]⟩], .tuple [sP, .int 5], .tuple [.none, .str ⟨#[97]⟩], sK, .tuple [.bool true, .str ⟨#[97]⟩], .tuple [sS, .none]]
def moreT (r : Row) (o : D) (b : Bool) : D := .tuple [.tuple (r.map mpD ++ [o]), .bool b]
def baseL (r : Row) : List D := [.tuple [mrD r, .bool true], .tuple [mrD r, .bool true], .tuple [.tuple [], .bool true], .tuple [.list (r.map mpD), .bool false], .tuple [.none, .bool false], .tuple [.tuple [sK, .str ⟨#[97]⟩], .bool false]]
def lastL2 (r : Row) : List D := [moreT r (.tuple [sS, .str ⟨#[91, 120, 93]⟩]) true, moreT r (.tuple [sP, .str ⟨#[65, 49]⟩]) true]
def GoodB (f : Nat) (x : D) : Prop := ∃ v b, x = .tuple [v, .bool b] ∧ ∀ n, evF tab (n + 2) f [v] = some (.bool b, [])
def RowOk (r : Row) : Prop := r.length ≤ 100 ∧ ∀ p ∈ r, wB (.str p.2) = true ∧ p.2.length ≤ 100
theorem row_good {r : Row} (h : RowOk r) {n : Nat} : evF tab (n + 2) 3 [mrD r] = some (.bool true, []) := by
  have hl := h.1
  have := mended_any (n := n) (xs := r.map mpD) (q := fun d => match d with | .tuple [_, w] => wB w | _ => false) (by rw [List.length_map]; omega) (fun _ x hx => by
    obtain ⟨p, _, rfl⟩ := List.mem_map.mp hx
    exact elt_mp p)
  have e1 : (r.map mpD).all (tB 2) = true := by
    rw [List.all_eq_true]
    intro x hx
    obtain ⟨p, _, rfl⟩ := List.mem_map.mp hx
    rfl
  have e2 : (r.map mpD).all (fun d => match d with | .tuple [_, w] => wB w | _ => false) = true := by
    rw [List.all_eq_true]
    intro x hx
    obtain ⟨p, hp, rfl⟩ := List.mem_map.mp hx
    exact (h.2 p hp).1
  rw [e1, e2] at this
  exact this
open Classical in
theorem more_any {r : Row} (h : RowOk r) {o : D} {b1 b2 : Bool} (h1 : tB 2 o = b1) (h2 : b1 = true → Elt o b2) {n : Nat} : evF tab (n + 2) 3 [.tuple (r.map mpD ++ [o])] = some (.bool (b1 && b2), []) := by
  have hl := h.1
  have e1 : (r.map mpD).all (tB 2) = true := by
    rw [List.all_eq_true]
    intro x hx
    obtain ⟨p, _, rfl⟩ := List.mem_map.mp hx
    rfl
  have a1 : (r.map mpD ++ [o]).all (tB 2) = b1 := by
    rw [List.all_append, e1, List.all_cons, List.all_nil, h1, Bool.and_true, Bool.true_and]
  cases b1 with
  | false =>
    have := mended_any (n := n) (xs := r.map mpD ++ [o]) (q := fun _ => true) (by rw [List.length_append, List.length_map]; simp; omega) (fun q => by rw [a1] at q; cases q)
    rw [a1] at this
    exact this
  | true =>
    have h2 := h2 rfl
    cases b2 with
    | true =>
      have := mended_any (n := n) (xs := r.map mpD ++ [o]) (q := fun _ => true) (by rw [List.length_append, List.length_map]; simp; omega) (fun _ x hx => by
        rcases List.mem_append.mp hx with hx | hx
        · obtain ⟨p, hp, rfl⟩ := List.mem_map.mp hx
          have := elt_mp p
          rw [(h.2 p hp).1] at this
          exact this
        · rw [List.mem_singleton.mp hx]
          exact h2)
      rw [a1] at this
      have a2 : (r.map mpD ++ [o]).all (fun _ => true) = true := by simp
      rw [a2] at this
      exact this
    | false =>
      have hq : ∀ x ∈ r.map mpD ++ [o], Elt x (if x = o then false else true) := fun x hx => by
        by_cases c : x = o
        · rw [if_pos c, c]
          exact h2
        · rw [if_neg c]
          rcases List.mem_append.mp hx with hx | hx
          · obtain ⟨p, hp, rfl⟩ := List.mem_map.mp hx
            have := elt_mp p
            rw [(h.2 p hp).1] at this
            exact this
          · exact absurd (List.mem_singleton.mp hx) c
      have := mended_any (n := n) (xs := r.map mpD ++ [o]) (q := fun x => if x = o then false else true) (by rw [List.length_append, List.length_map]; simp; omega) (fun _ => hq)
      have a2 : (r.map mpD ++ [o]).all (fun x => if x = o then false else true) = false := by
        rw [List.all_append, List.all_cons, if_pos rfl, Bool.false_and, Bool.and_false]
      rw [a1, a2] at this
      exact this
theorem good_more {r : Row} (h : RowOk r) {o : D} {b1 b2 : Bool} (h1 : tB 2 o = b1) (h2 : b1 = true → Elt o b2) : GoodB 3 (moreT r o (b1 && b2)) := ⟨_, _, rfl, fun n => more_any h h1 h2⟩
theorem elt_one {k : Str} {v : D} {b1 b2 : Bool} (h : cmpB .In (.str k) (.tuple [(.str ⟨#[107, 101, 101, 112]⟩), (.str ⟨#[115, 116, 114, 105, 107, 101]⟩), (.str ⟨#[112, 117, 116]⟩)]) = some b1) (h2 : wB v = b2) : Elt (.tuple [.str k, v]) (b1 && b2) := by
  subst h2
  exact elt_str h
theorem odd_good {r : Row} (h : RowOk r) : ∀ o ∈ oddL, GoodB 3 (moreT r o false) := by
  intro o ho
  simp only [oddL, List.mem_cons, List.not_mem_nil, or_false] at ho
  rcases ho with rfl | rfl | rfl | rfl | rfl | rfl | rfl | rfl | rfl | rfl | rfl | rfl
  · exact good_more h (b1 := true) (b2 := false) rfl fun _ => elt_one (b1 := false) (b2 := true) (by decide) (by decide +kernel)
  · exact good_more h (b1 := true) (b2 := false) rfl fun _ => elt_one (b1 := true) (b2 := false) (by decide) (by decide +kernel)
  · exact good_more h (b1 := true) (b2 := false) rfl fun _ => elt_one (b1 := true) (b2 := false) (by decide) (by decide +kernel)
  · exact good_more h (b1 := true) (b2 := false) rfl fun _ => elt_one (b1 := true) (b2 := false) (by decide) (by decide +kernel)
  · exact good_more h (b1 := false) (b2 := false) rfl fun q => nomatch q
  · exact good_more h (b1 := false) (b2 := false) rfl fun q => nomatch q
  · exact good_more h (b1 := false) (b2 := false) rfl fun q => nomatch q
  · exact good_more h (b1 := true) (b2 := false) rfl fun _ => elt_one (b1 := true) (b2 := false) (by decide) rfl
  · exact good_more h (b1 := true) (b2 := false) rfl fun _ => elt_non rfl
  · exact good_more h (b1 := false) (b2 := false) rfl fun q => nomatch q
  · exact good_more h (b1 := true) (b2 := false) rfl fun _ => elt_non rfl
  · exact good_more h (b1 := true) (b2 := false) rfl fun _ => elt_one (b1 := true) (b2 := false) (by decide) rfl
theorem base_good {r : Row} (h : RowOk r) : ∀ x ∈ baseL r, GoodB 3 x := by
  intro o ho
  have g := fun n => row_good h (n := n)
  simp only [baseL, List.mem_cons, List.not_mem_nil, or_false] at ho
  rcases ho with rfl | rfl | rfl | rfl | rfl | rfl
  · exact ⟨_, _, rfl, g⟩
  · exact ⟨_, _, rfl, g⟩
  · refine ⟨_, _, rfl, fun n => ?_⟩
    exact row_good (r := []) ⟨by simp, fun p hp => by cases hp⟩
  · exact ⟨_, _, rfl, fun n => mended_not rfl⟩
  · exact ⟨_, _, rfl, fun n => mended_not rfl⟩
  · refine ⟨_, _, rfl, fun n => ?_⟩
    have := mended_any (n := n) (xs := [sK, .str ⟨#[97]⟩]) (q := fun _ => true) (by decide) (fun q => nomatch q)
    exact this
theorem last_good {r : Row} (h : RowOk r) : ∀ x ∈ lastL2 r, GoodB 3 x := by
  intro o ho
  simp only [lastL2, List.mem_cons, List.not_mem_nil, or_false] at ho
  rcases ho with rfl | rfl
  · exact good_more h (b1 := true) (b2 := true) rfl fun _ => elt_one (b1 := true) (b2 := true) (by decide) (by decide +kernel)
  · exact good_more h (b1 := true) (b2 := true) rfl fun _ => elt_one (b1 := true) (b2 := true) (by decide) (by decide +kernel)
def beS (w : D) (r : Row) (rows : List D) (a : Sl) : Ro := [.ow w, .sh (mrD r), .ow (.list rows), a]
theorem bent_ok {n : Nat} {r : Row} (h : RowOk r) (ds : List Int) (k : Nat) : ∃ v b k', evF tab (n + 3) 22 [wN ds k, mrD r] = some (.tuple [v, .bool b], [wN ds k']) ∧ ∀ n, evF tab (n + 2) 3 [v] = some (.bool b, []) := by
  obtain ⟨x, k', hx, pk⟩ := pick24 (n := n) ds k (baseL r ++ oddL.map (fun o => moreT r o false) ++ lastL2 r) (by simp [baseL])
  have gx : GoodB 3 x := by
    rcases List.mem_append.mp hx with hx | hx
    · rcases List.mem_append.mp hx with hx | hx
      · exact base_good h x hx
      · obtain ⟨o, ho, rfl⟩ := List.mem_map.mp hx
        exact odd_good h o ho
    · exact last_good h x hx
  obtain ⟨v, b, rfl, gv⟩ := gx
  refine ⟨v, b, k', ?_, gv⟩
  refine call_eq (fi := fi22) rfl [.ow (wN ds k), .sh (mrD r)] rfl ?_
  show Run _ fi22.body [.ow (wN ds k), .sh (mrD r), .no, .no] _
  unfold fi22
  have hsl : 2000000 ≤ sizeLine := by rw [sizeLine_eq]; decide
  have hrl := h.1
  have md : mrD r = .tuple (r.map mpD) := rfl
  have hm : (r.map mpD).length + 1 ≤ sizeLine := by rw [List.length_map]; omega
  refine run_nx (ρ' := beS (wN ds k) r (baseL r) .no) (by
    unfold beS baseL
    rw [md]
    generalize r.map mpD = L
    simp [sK]) ?_
  refine run_forA (ρ' := beS (wN ds k) r (baseL r) .no) oddL id (fun ys ρ => ∃ a, ρ = beS (wN ds k) r (baseL r ++ ys.map fun o => moreT r o false) a) (by
    rw [List.map_id]
    simp [beS, oddL, sK, sP, sS]) ⟨.no, by rw [List.map_nil, List.append_nil]⟩ ?_ ?_
  · rintro ys o zs ρ' hl2 ⟨a, rfl⟩
    have hy : ys.length ≤ 12 := by
      have := congrArg List.length hl2
      rw [List.length_append] at this
      have o12 : oddL.length = 12 := rfl
      omega
    refine ⟨beS (wN ds k) r (baseL r ++ ys.map fun o => moreT r o false) (.sh o), rfl, ?_⟩
    have hz : (baseL r ++ ys.map fun o => moreT r o false).length < sizeLine := by
      rw [List.length_append, List.length_map]
      have : (baseL r).length = 6 := rfl
      omega
    rw [List.map_append, ← List.append_assoc]
    have e1 : [o].map (fun o => moreT r o false) = [.tuple [.tuple (r.map mpD ++ [o]), .bool false]] := rfl
    rw [e1]
    refine run_nx (ρ' := beS (wN ds k) r ((baseL r ++ ys.map fun o => moreT r o false) ++ [.tuple [.tuple (r.map mpD ++ [o]), .bool false]]) (.sh o)) ?_ (run_nil ⟨_, rfl⟩)
    unfold beS
    rw [md]
    generalize (baseL r ++ ys.map fun o => moreT r o false) = L at hz ⊢
    generalize r.map mpD = M at hm ⊢
    simp [hz, hm]
  · rintro ρ' ⟨a, rfl⟩
    refine run_rt (r := (.tuple [v, .bool b], beS (wN ds k') r (baseL r ++ oddL.map fun o => moreT r o false) a)) ?_ ⟨_, rfl, rfl⟩
    have hz : (baseL r ++ oddL.map fun o => moreT r o false).length + 2 ≤ sizeLine := by
      rw [List.length_append, List.length_map]
      have : (baseL r).length = 6 := rfl
      have o12 : oddL.length = 12 := rfl
      omega
    have ll : lastL2 r = [.tuple [.tuple (r.map mpD ++ [.tuple [sS, .str ⟨#[91, 120, 93]⟩]]), .bool true], .tuple [.tuple (r.map mpD ++ [.tuple [sP, .str ⟨#[65, 49]⟩]]), .bool true]] := rfl
    rw [ll] at pk
    unfold beS
    rw [md]
    generalize (baseL r ++ oddL.map fun o => moreT r o false) = L at hz pk ⊢
    generalize r.map mpD = M at hm pk ⊢
    unfold sS sP at pk
    simp [hz, hm, pk]
end K24
end

section
namespace K24
open PySem DV
def oddW : List D := [.str ⟨#[]⟩, .str ⟨#[32]⟩, .str ⟨#[97, 32, 98]⟩, .str ⟨#[97, 10, 98]⟩, .int 1, .none, .tuple [.str ⟨#[97]⟩], .bool true]
def moreW (ws : List Str) (o : D) (b : Bool) : D := .tuple [.tuple (ws.map PyData.str ++ [o]), .bool b]
def baseW (ws : List Str) : List D := [.tuple [strT ws, .bool true], .tuple [.tuple [], .bool true], .tuple [.list (ws.map .str), .bool false], .tuple [.none, .bool false], .tuple [.str ⟨#[97]⟩, .bool false], moreW ws (.str ⟨#[120, 45, 121]⟩) true]
def WsOk (ws : List Str) : Prop := ws.length ≤ 100 ∧ ∀ w ∈ ws, wB (.str w) = true
theorem ws_all {ws : List Str} (h : WsOk ws) : (ws.map PyData.str).all wB = true := by
  rw [List.all_eq_true]
  intro x hx
  obtain ⟨p, hp, rfl⟩ := List.mem_map.mp hx
  exact h.2 p hp
theorem more_w {ws : List Str} (h : WsOk ws) (o : D) {b : Bool} (hb : wB o = b) : GoodB 2 (moreW ws o b) := ⟨_, _, rfl, fun n => by
  have hl := h.1
  have := words_any (n := n) (xs := ws.map PyData.str ++ [o]) (by rw [List.length_append, List.length_map]; simp; omega)
  rw [List.all_append, ws_all h, List.all_cons, List.all_nil, hb, Bool.and_true, Bool.true_and] at this
  exact this⟩
theorem odd_w {ws : List Str} (h : WsOk ws) : ∀ o ∈ oddW, GoodB 2 (moreW ws o false) := by
  intro o ho
  simp only [oddW, List.mem_cons, List.not_mem_nil, or_false] at ho
  rcases ho with rfl | rfl | rfl | rfl | rfl | rfl | rfl | rfl
  · exact more_w h _ (by decide +kernel)
  · exact more_w h _ (by decide +kernel)
  · exact more_w h _ (by decide +kernel)
  · exact more_w h _ (by decide +kernel)
  · exact more_w h _ rfl
  · exact more_w h _ rfl
  · exact more_w h _ rfl
  · exact more_w h _ rfl
theorem base_w {ws : List Str} (h : WsOk ws) : ∀ x ∈ baseW ws, GoodB 2 x := by
  intro o ho
  simp only [baseW, List.mem_cons, List.not_mem_nil, or_false] at ho
  rcases ho with rfl | rfl | rfl | rfl | rfl | rfl
  · refine ⟨_, _, rfl, fun n => ?_⟩
    have hl := h.1
    have := words_any (n := n) (xs := ws.map PyData.str) (by rw [List.length_map]; omega)
    rw [ws_all h] at this
    exact this
  · exact ⟨_, _, rfl, fun n => words_any (xs := []) (by simp)⟩
  · exact ⟨_, _, rfl, fun n => words_not rfl⟩
  · exact ⟨_, _, rfl, fun n => words_not rfl⟩
  · exact ⟨_, _, rfl, fun n => words_not rfl⟩
  · exact more_w h _ (by decide +kernel)
theorem wbent_ok {n : Nat} {ws : List Str} (h : WsOk ws) (ds : List Int) (k : Nat) : ∃ v b k', evF tab (n + 3) 23 [wN ds k, strT ws] = some (.tuple [v, .bool b], [wN ds k']) ∧ ∀ n, evF tab (n + 2) 2 [v] = some (.bool b, []) := by
  obtain ⟨x, k', hx, pk⟩ := pick24 (n := n) ds k (baseW ws ++ oddW.map (fun o => moreW ws o false)) (by simp [baseW])
  have gx : GoodB 2 x := by
    rcases List.mem_append.mp hx with hx | hx
    · exact base_w h x hx
    · obtain ⟨o, ho, rfl⟩ := List.mem_map.mp hx
      exact odd_w h o ho
  obtain ⟨v, b, rfl, gv⟩ := gx
  refine ⟨v, b, k', ?_, gv⟩
  refine call_eq (fi := fi23) rfl [.ow (wN ds k), .sh (strT ws)] rfl ?_
  show Run _ fi23.body [.ow (wN ds k), .sh (strT ws), .no, .no] _
  unfold fi23
  have hsl : 2000000 ≤ sizeLine := by rw [sizeLine_eq]; decide
  have hrl := h.1
  have md : strT ws = .tuple (ws.map .str) := rfl
  have hm : (ws.map PyData.str).length + 1 ≤ sizeLine := by rw [List.length_map]; omega
  refine run_nx (ρ' := [.ow (wN ds k), .sh (strT ws), .sh (.list (baseW ws)), .no]) (by
    unfold baseW moreW
    rw [md]
    generalize ws.map PyData.str = L at hm ⊢
    simp [hm]) ?_
  have e1 : evE (evF tab (n + 2)) (.comp [3] (.nm 3) (.val (.lst (.cons (.con (.str ⟨#[]⟩)) (.cons (.con (.str ⟨#[32]⟩)) (.cons (.con (.str ⟨#[97, 32, 98]⟩)) (.cons (.con (.str ⟨#[97, 10, 98]⟩)) (.cons (.con (.int 1)) (.cons (.con .none) (.cons (.tup (.cons (.con (.str ⟨#[97]⟩)) .nil)) (.cons (.con (.bool true)) .nil)))))))))) .nil (.tup (.cons (.prim (.bin .Add) (.cons (.var 1) (.cons (.tup (.cons (.var 3) .nil)) .nil))) (.cons (.con (.bool false)) .nil)))) [.ow (wN ds k), .sh (strT ws), .sh (.list (baseW ws)), .no] = some (.list (oddW.map fun o => moreW ws o false), [.ow (wN ds k), .sh (strT ws), .sh (.list (baseW ws)), .no]) := by
    refine comp_m oddW id _ (by rw [List.map_id]; simp [oddW]) rfl (by rw [show oddW.length = 8 from rfl]; omega) fun o ho => ⟨[.ow (wN ds k), .sh (strT ws), .sh (.list (baseW ws)), .sh o], by exact rfl, by exact rfl, ?_⟩
    unfold moreW
    rw [md]
    generalize ws.map PyData.str = L at hm ⊢
    generalize baseW ws = B
    simp [hm]
  have hz : (baseW ws).length + (oddW.map fun o => moreW ws o false).length ≤ sizeLine := by
    rw [List.length_map]
    have : (baseW ws).length = 6 := rfl
    have : oddW.length = 8 := rfl
    omega
  refine run_rt (r := (.tuple [v, .bool b], [.ow (wN ds k'), .sh (strT ws), .sh (.list (baseW ws)), .no])) ?_ ⟨_, rfl, rfl⟩
  generalize baseW ws = B at *
  generalize (oddW.map fun o => moreW ws o false) = O at *
  simp only [ev_call, ops_io, ops_prim, ev_prim, ops_comp, ops_var, e1]
  simp [hz, pk, e1]
end K24
end

section
namespace K24
open PySem DV
theorem sm_strT {ws : List Str} (h : ws.length ≤ 100) : Sm 1 101 (strT ws) := Sm.map (fun _ _ => sm_str _) h (by omega)
theorem sm_mp (p : Kd × Str) : Sm 1 3 (mpD p) := (Sm.tup (xs := [.str (kdS p.1), .str p.2]) (k := 2) (by
  intro x hx
  simp only [List.mem_cons, List.not_mem_nil, or_false] at hx
  rcases hx with rfl | rfl <;> exact sm_str _) (by simp) (by omega)).up (Nat.le_refl _) (by omega)
theorem sm_mr {r : Row} (h : r.length ≤ 100) : Sm 2 301 (mrD r) := Sm.map (fun p _ => sm_mp p) h (by omega)
theorem sm_nats {l : List Nat} (h : l.length ≤ 100) : Sm 1 101 (.tuple (l.map natK)) := Sm.map (fun _ _ => sm_nat _) h (by omega)
theorem same_sm {n m c : Nat} {d : D} (h : Sm m c d) (hm : m ≤ 20) (hc : c ≤ 1000000) : evF tab (n + 1) 16 [d, d] = some (.bool true, []) := same24 d h.1 (Nat.le_trans h.2.1 hm) (Nat.le_trans h.2.2 hc)
def sl : Option D → Sl
  | none => .no
  | some d => .sh d
def lS (s : D) (ds : List Int) (k : Nat) (x2 x3 x4 x5 x6 x7 x8 x9 x10 x11 x12 x13 x14 x15 x16 x17 x18 x19 x20 x21 : Sl) : Ro := .sh s :: .ow (wN ds k) :: [x2, x3, x4, x5, x6, x7, x8, x9, x10, x11, x12, x13, x14, x15, x16, x17, x18, x19, x20, x21, .no]
def kindL : List Kd := [.keep, .strike, .put]
def wordM : List Str := [⟨#[97]⟩, ⟨#[98]⟩, ⟨#[97, 98]⟩, ⟨#[97]⟩]
theorem word_M {w : Str} (h : w ∈ wordM) : wB (.str w) = true ∧ w.length ≤ 100 := by
  simp only [wordM, List.mem_cons, List.not_mem_nil, or_false] at h
  rcases h with rfl | rfl | rfl | rfl <;> exact ⟨by decide +kernel, by decide⟩
theorem kd_np (k : Kd) : cmpB .In (.str (kdS k)) (.tuple [.str ⟨#[107, 101, 101, 112]⟩, .str ⟨#[115, 116, 114, 105, 107, 101]⟩]) = some (decide (k ≠ .put)) := by cases k <;> decide
theorem kd_ns (k : Kd) : cmpB .In (.str (kdS k)) (.tuple [.str ⟨#[107, 101, 101, 112]⟩, .str ⟨#[112, 117, 116]⟩]) = some (decide (k ≠ .strike)) := by cases k <;> decide
section
variable {C : Call} {s : D} {ds : List Int} {k : Nat} {x2 x4 x5 x6 x7 x8 x9 x10 x12 x13 x14 x15 x18 x19 x20 x21 : Sl} {o11 o16 o17 : Option D} {r : Row}
theorem eA (hl : r.length ≤ 1000) : evE C (.prim .tuple (.cons (.comp [16, 17] (.tp (.cons (.nm 16) (.cons (.nm 17) .nil))) (.val (.var 3)) (.cons (.prim (.cmp .In) (.cons (.var 16) (.cons (.tup (.cons (.con (.str ⟨#[107, 101, 101, 112]⟩)) (.cons (.con (.str ⟨#[115, 116, 114, 105, 107, 101]⟩)) .nil))) .nil))) .nil) (.var 17)) .nil)) (lS s ds k x2 (.sh (mrD r)) x4 x5 x6 x7 x8 x9 x10 (sl o11) x12 x13 x14 x15 (sl o16) (sl o17) x18 x19 x20 x21) = some (strT (aheadN r), lS s ds k x2 (.sh (mrD r)) x4 x5 x6 x7 x8 x9 x10 (sl o11) x12 x13 x14 x15 (sl o16) (sl o17) x18 x19 x20 x21) := by
  have e1 : evE C (.comp [16, 17] (.tp (.cons (.nm 16) (.cons (.nm 17) .nil))) (.val (.var 3)) (.cons (.prim (.cmp .In) (.cons (.var 16) (.cons (.tup (.cons (.con (.str ⟨#[107, 101, 101, 112]⟩)) (.cons (.con (.str ⟨#[115, 116, 114, 105, 107, 101]⟩)) .nil))) .nil))) .nil) (.var 17)) (lS s ds k x2 (.sh (mrD r)) x4 x5 x6 x7 x8 x9 x10 (sl o11) x12 x13 x14 x15 (sl o16) (sl o17) x18 x19 x20 x21) = some (.list ((aheadN r).map .str), lS s ds k x2 (.sh (mrD r)) x4 x5 x6 x7 x8 x9 x10 (sl o11) x12 x13 x14 x15 (sl o16) (sl o17) x18 x19 x20 x21) := by
    unfold aheadN
    rw [List.map_map]
    refine comp_fm r mpD _ _ (by simp [mrD, lS]) (by cases o16 <;> cases o17 <;> rfl) (by rw [sizeLine_eq]; omega) fun p hp => ⟨lS s ds k x2 (.sh (mrD r)) x4 x5 x6 x7 x8 x9 x10 (sl o11) x12 x13 x14 x15 (.sh (.str (kdS p.1))) (.sh (.str p.2)) x18 x19 x20 x21, by exact rfl, by exact rfl, ?_, fun _ => by simp [lS]⟩
    have q : inF (.str (kdS p.1)) (.tuple [.str ⟨#[107, 101, 101, 112]⟩, .str ⟨#[115, 116, 114, 105, 107, 101]⟩]) = some (decide (p.1 ≠ .put)) := kd_np p.1
    generalize PyData.str (kdS p.1) = kk at q
    generalize decide (p.1 ≠ .put) = b at q ⊢
    simp [lS, q]
  rw [ev_prim, ops_comp, e1]
  rfl
theorem eB (hl : r.length ≤ 1000) : evE C (.prim .tuple (.cons (.comp [16, 17] (.tp (.cons (.nm 16) (.cons (.nm 17) .nil))) (.val (.var 3)) (.cons (.prim (.cmp .In) (.cons (.var 16) (.cons (.tup (.cons (.con (.str ⟨#[107, 101, 101, 112]⟩)) (.cons (.con (.str ⟨#[112, 117, 116]⟩)) .nil))) .nil))) .nil) (.var 17)) .nil)) (lS s ds k x2 (.sh (mrD r)) x4 x5 x6 x7 x8 x9 x10 (sl o11) x12 x13 x14 x15 (sl o16) (sl o17) x18 x19 x20 x21) = some (strT (behindN r), lS s ds k x2 (.sh (mrD r)) x4 x5 x6 x7 x8 x9 x10 (sl o11) x12 x13 x14 x15 (sl o16) (sl o17) x18 x19 x20 x21) := by
  have e1 : evE C (.comp [16, 17] (.tp (.cons (.nm 16) (.cons (.nm 17) .nil))) (.val (.var 3)) (.cons (.prim (.cmp .In) (.cons (.var 16) (.cons (.tup (.cons (.con (.str ⟨#[107, 101, 101, 112]⟩)) (.cons (.con (.str ⟨#[112, 117, 116]⟩)) .nil))) .nil))) .nil) (.var 17)) (lS s ds k x2 (.sh (mrD r)) x4 x5 x6 x7 x8 x9 x10 (sl o11) x12 x13 x14 x15 (sl o16) (sl o17) x18 x19 x20 x21) = some (.list ((behindN r).map .str), lS s ds k x2 (.sh (mrD r)) x4 x5 x6 x7 x8 x9 x10 (sl o11) x12 x13 x14 x15 (sl o16) (sl o17) x18 x19 x20 x21) := by
    unfold behindN
    rw [List.map_map]
    refine comp_fm r mpD _ _ (by simp [mrD, lS]) (by cases o16 <;> cases o17 <;> rfl) (by rw [sizeLine_eq]; omega) fun p hp => ⟨lS s ds k x2 (.sh (mrD r)) x4 x5 x6 x7 x8 x9 x10 (sl o11) x12 x13 x14 x15 (.sh (.str (kdS p.1))) (.sh (.str p.2)) x18 x19 x20 x21, by exact rfl, by exact rfl, ?_, fun _ => by simp [lS]⟩
    have q : inF (.str (kdS p.1)) (.tuple [.str ⟨#[107, 101, 101, 112]⟩, .str ⟨#[112, 117, 116]⟩]) = some (decide (p.1 ≠ .strike)) := kd_ns p.1
    generalize PyData.str (kdS p.1) = kk at q
    generalize decide (p.1 ≠ .strike) = b at q ⊢
    simp [lS, q]
  rw [ev_prim, ops_comp, e1]
  rfl
theorem eT (hl : r.length ≤ 1000) (hw : ∀ p ∈ r, p.2.length ≤ 100) : evE C (.prim .join (.cons (.con (.str ⟨#[32]⟩)) (.cons (.comp [16, 17] (.tp (.cons (.nm 16) (.cons (.nm 17) .nil))) (.val (.var 3)) .nil (.ife (.prim (.cmp .Eq) (.cons (.var 16) (.cons (.con (.str ⟨#[107, 101, 101, 112]⟩)) .nil))) (.var 17) (.ife (.prim (.cmp .Eq) (.cons (.var 16) (.cons (.con (.str ⟨#[115, 116, 114, 105, 107, 101]⟩)) .nil))) (.prim (.bin .Add) (.cons (.prim (.bin .Add) (.cons (.con (.str ⟨#[91]⟩)) (.cons (.var 17) .nil))) (.cons (.con (.str ⟨#[93]⟩)) .nil))) (.prim (.bin .Add) (.cons (.prim (.bin .Add) (.cons (.con (.str ⟨#[123]⟩)) (.cons (.var 17) .nil))) (.cons (.con (.str ⟨#[125]⟩)) .nil)))))) .nil))) (lS s ds k x2 (.sh (mrD r)) x4 x5 x6 x7 x8 x9 x10 (sl o11) x12 x13 x14 x15 (sl o16) (sl o17) x18 x19 x20 x21) = some (.str (prN r), lS s ds k x2 (.sh (mrD r)) x4 x5 x6 x7 x8 x9 x10 (sl o11) x12 x13 x14 x15 (sl o16) (sl o17) x18 x19 x20 x21) := by
  have e1 : evE C (.comp [16, 17] (.tp (.cons (.nm 16) (.cons (.nm 17) .nil))) (.val (.var 3)) .nil (.ife (.prim (.cmp .Eq) (.cons (.var 16) (.cons (.con (.str ⟨#[107, 101, 101, 112]⟩)) .nil))) (.var 17) (.ife (.prim (.cmp .Eq) (.cons (.var 16) (.cons (.con (.str ⟨#[115, 116, 114, 105, 107, 101]⟩)) .nil))) (.prim (.bin .Add) (.cons (.prim (.bin .Add) (.cons (.con (.str ⟨#[91]⟩)) (.cons (.var 17) .nil))) (.cons (.con (.str ⟨#[93]⟩)) .nil))) (.prim (.bin .Add) (.cons (.prim (.bin .Add) (.cons (.con (.str ⟨#[123]⟩)) (.cons (.var 17) .nil))) (.cons (.con (.str ⟨#[125]⟩)) .nil)))))) (lS s ds k x2 (.sh (mrD r)) x4 x5 x6 x7 x8 x9 x10 (sl o11) x12 x13 x14 x15 (sl o16) (sl o17) x18 x19 x20 x21) = some (.list ((r.map txN).map .str), lS s ds k x2 (.sh (mrD r)) x4 x5 x6 x7 x8 x9 x10 (sl o11) x12 x13 x14 x15 (sl o16) (sl o17) x18 x19 x20 x21) := by
    rw [List.map_map]
    refine comp_m r mpD _ (by simp [mrD, lS]) (by cases o16 <;> cases o17 <;> rfl) (by rw [sizeLine_eq]; omega) fun p hp => ⟨lS s ds k x2 (.sh (mrD r)) x4 x5 x6 x7 x8 x9 x10 (sl o11) x12 x13 x14 x15 (.sh (.str (kdS p.1))) (.sh (.str p.2)) x18 x19 x20 x21, by exact rfl, by exact rfl, ?_⟩
    obtain ⟨kd, w⟩ := p
    have lw : w.length ≤ 100 := hw _ hp
    cases kd with
    | keep =>
      have t : (PyData.str ∘ txN) (Kd.keep, w) = .str w := by
        show PyData.str (⟨#[]⟩ ++ w ++ ⟨#[]⟩) = _
        rw [app_nil]
      rw [t]
      simp [lS, kdS]
    | strike =>
      have t : (PyData.str ∘ txN) (Kd.strike, w) = .str (⟨#[91]⟩ ++ w ++ ⟨#[93]⟩) := rfl
      have l1 : (⟨#[91]⟩ : Str).length = 1 := rfl
      have l2 : (⟨#[93]⟩ : Str).length = 1 := rfl
      have a1 := add_str (a := ⟨#[91]⟩) (b := w) (by omega)
      have a2 := add_str (a := ⟨#[91]⟩ ++ w) (b := ⟨#[93]⟩) (by rw [app_len]; omega)
      rw [t]
      simp [lS, kdS, -add_str, a1, a2]
    | put =>
      have t : (PyData.str ∘ txN) (Kd.put, w) = .str (⟨#[123]⟩ ++ w ++ ⟨#[125]⟩) := rfl
      have l1 : (⟨#[123]⟩ : Str).length = 1 := rfl
      have l2 : (⟨#[125]⟩ : Str).length = 1 := rfl
      have a1 := add_str (a := ⟨#[123]⟩) (b := w) (by omega)
      have a2 := add_str (a := ⟨#[123]⟩ ++ w) (b := ⟨#[125]⟩) (by rw [app_len]; omega)
      rw [t]
      simp [lS, kdS, a1, a2]
  have j := join_txs hl hw
  rw [ev_prim, ops_con, ev_con]
  simp only [Option.bind_some, ops_comp, e1, ops_nil, Option.map_some]
  generalize PyData.list ((r.map txN).map .str) = L at j
  rw [j]
  rfl
end
end K24
end

section
namespace K24
open PySem DV
theorem mem_one {α : Type} {l : List α} {n : Nat} {x : α} : x ∈ (l.drop n).take 1 ↔ l[n]? = some x := by
  by_cases h : n < l.length
  · rw [List.drop_eq_getElem_cons h, List.getElem?_eq_getElem h, List.take_succ_cons, List.take_zero, List.mem_singleton]
    exact ⟨fun e => by rw [e], fun e => by injection e with e; exact e.symm⟩
  · rw [List.drop_eq_nil_of_le (by omega), List.getElem?_eq_none (by omega)]
    simp
theorem vain_mem {r : Row} {k : Nat} {w : Str} (h : r[k]? = some (.strike, w)) : decide ((Kd.put, w) ∈ (r.drop (k - 1)).take (k - (k - 1)) ++ (r.drop (k + 1)).take 1) = vainB r k := by
  have e : vainB r k = (decide (r[k + 1]? = some (.put, w)) || (decide (1 ≤ k) && decide (r[k - 1]? = some (.put, w)))) := by
    unfold vainB
    rw [h]
  rw [e]
  have a : (Kd.put, w) ∈ (r.drop (k + 1)).take 1 ↔ r[k + 1]? = some (.put, w) := mem_one
  by_cases hk : 1 ≤ k
  · have b : (Kd.put, w) ∈ (r.drop (k - 1)).take (k - (k - 1)) ↔ r[k - 1]? = some (.put, w) := by
      rw [show k - (k - 1) = 1 by omega]
      exact mem_one
    rw [decide_eq_true hk, Bool.true_and]
    simp only [List.mem_append, a, b]
    by_cases c1 : r[k + 1]? = some (.put, w)
    · simp [c1]
    · by_cases c2 : r[k - 1]? = some (.put, w)
      · simp [c1, c2]
      · simp [c1, c2]
  · have b : (r.drop (k - 1)).take (k - (k - 1)) = [] := by
      rw [show k - (k - 1) = 0 by omega]
      rfl
    rw [b, decide_eq_false hk, Bool.false_and, Bool.or_false, List.nil_append]
    by_cases c1 : r[k + 1]? = some (.put, w)
    · rw [decide_eq_true c1, decide_eq_true (a.mpr c1)]
    · rw [decide_eq_false c1, decide_eq_false (fun q => c1 (a.mp q))]
theorem vain_not {r : Row} {k : Nat} {p : Kd × Str} (h : r[k]? = some p) (hp : p.1 ≠ .strike) : vainB r k = false := by
  unfold vainB
  rw [h]
  obtain ⟨kd, w⟩ := p
  cases kd with
  | strike => exact absurd rfl hp
  | keep => rfl
  | put => rfl
section
variable {C : Call} {s : D} {ds : List Int} {k : Nat} {x2 x4 x5 x6 x7 x8 x9 x10 x12 x13 x14 x15 x18 x19 x20 x21 : Sl} {o11 o16 o17 : Option D} {r : Row}
theorem eV (hl : r.length ≤ 1000) : evE C (.comp [11] (.nm 11) (.rng (.cons (.prim .len (.cons (.var 3) .nil)) .nil)) (.cons (.and (.prim (.cmp .Eq) (.cons (.prim .ix (.cons (.prim .ix (.cons (.var 3) (.cons (.var 11) .nil))) (.cons (.con (.int 0)) .nil))) (.cons (.con (.str ⟨#[115, 116, 114, 105, 107, 101]⟩)) .nil))) (.prim (.cmp .In) (.cons (.tup (.cons (.con (.str ⟨#[112, 117, 116]⟩)) (.cons (.prim .ix (.cons (.prim .ix (.cons (.var 3) (.cons (.var 11) .nil))) (.cons (.con (.int 1)) .nil))) .nil))) (.cons (.prim (.bin .Add) (.cons (.prim (.sl true true) (.cons (.var 3) (.cons (.prim .max2 (.cons (.con (.int 0)) (.cons (.prim (.bin .Sub) (.cons (.var 11) (.cons (.con (.int 1)) .nil))) .nil))) (.cons (.var 11) .nil)))) (.cons (.prim (.sl true true) (.cons (.var 3) (.cons (.prim (.bin .Add) (.cons (.var 11) (.cons (.con (.int 1)) .nil))) (.cons (.prim (.bin .Add) (.cons (.var 11) (.cons (.con (.int 2)) .nil))) .nil)))) .nil))) .nil)))) .nil) (.var 11)) (lS s ds k x2 (.sh (mrD r)) x4 x5 x6 x7 x8 x9 x10 (sl o11) x12 x13 x14 x15 (sl o16) (sl o17) x18 x19 x20 x21) = some (.list ((vainN r).map natK), lS s ds k x2 (.sh (mrD r)) x4 x5 x6 x7 x8 x9 x10 (sl o11) x12 x13 x14 x15 (sl o16) (sl o17) x18 x19 x20 x21) := by
  unfold vainN
  have rr := rng_nat (m := r.length) (by omega)
  have ln := len_mr r
  refine comp_fm (List.range r.length) natK _ _ (by simp [lS, ln, rr]) (by cases o11 <;> rfl) (by rw [sizeLine_eq, List.length_range]; omega) fun j hj => ⟨lS s ds k x2 (.sh (mrD r)) x4 x5 x6 x7 x8 x9 x10 (.sh (natK j)) x12 x13 x14 x15 (sl o16) (sl o17) x18 x19 x20 x21, by exact rfl, by exact rfl, ?_, fun _ => by simp [lS]⟩
  have hj := List.mem_range.mp hj
  have h1 : r[j]? = some r[j] := List.getElem?_eq_getElem hj
  generalize r[j] = p at h1
  have a1 := at_mrx h1
  have b0 : ixF (mpD p) (.int 0) = some (.str (kdS p.1)) := rfl
  have b1 : ixF (mpD p) (.int 1) = some (.str p.2) := rfl
  have e2 : eqF (.str (kdS p.1)) (.str ⟨#[115, 116, 114, 105, 107, 101]⟩) = some (decide (p.1 = .strike)) := by rw [eqSSw, kd_strike]
  by_cases c : p.1 = .strike
  · obtain ⟨kd, w⟩ := p
    dsimp only at c
    subst c
    have mx : primF .max2 [.int 0, .int ((j : Int) - 1)] = some (.int ((j - 1 : Nat) : Int)) := by
      show some (PyData.int (if (j : Int) - 1 > 0 then (j : Int) - 1 else 0)) = _
      congr 2
      split <;> omega
    have s1 : slF (some ((j - 1 : Nat) : Int)) (some (j : Int)) (mrD r) = some (mrD ((r.drop (j - 1)).take (j - (j - 1)))) := by
      show some (PyData.tuple (cut (r.map mpD) (some ((j - 1 : Nat) : Int)) (some (j : Int)))) = _
      rw [cut_both, ← List.map_drop, ← List.map_take]
      rfl
    have s2 : slF (some ((j : Int) + 1)) (some ((j : Int) + 2)) (mrD r) = some (mrD ((r.drop (j + 1)).take 1)) := by
      show some (PyData.tuple (cut (r.map mpD) (some (((j + 1 : Nat)) : Int)) (some (((j + 2 : Nat)) : Int)))) = _
      rw [cut_both, ← List.map_drop, ← List.map_take, show j + 2 - (j + 1) = 1 by omega]
      rfl
    have ad := add_mr (a := (r.drop (j - 1)).take (j - (j - 1))) (b := (r.drop (j + 1)).take 1) (by
      rw [List.length_take, List.length_take]
      omega)
    have im := in_mp (.put, w) ((r.drop (j - 1)).take (j - (j - 1)) ++ (r.drop (j + 1)).take 1)
    rw [vain_mem h1] at im
    have im : inF (.tuple [.str ⟨#[112, 117, 116]⟩, .str w]) (mrD ((r.drop (j - 1)).take (j - (j - 1)) ++ (r.drop (j + 1)).take 1)) = some (vainB r j) := im
    generalize mrD ((r.drop (j - 1)).take (j - (j - 1)) ++ (r.drop (j + 1)).take 1) = M at ad im
    generalize mrD ((r.drop (j - 1)).take (j - (j - 1))) = M1 at s1 ad
    generalize mrD ((r.drop (j + 1)).take 1) = M2 at s2 ad
    generalize vainB r j = vb at im ⊢
    have sb : subF (natK j) (.int 1) = some (.int ((j : Int) - 1)) := rfl
    have p0 : partOf (.int ((j - 1 : Nat) : Int)) = some (some ((j - 1 : Nat) : Int)) := rfl
    have p1 : partOf (natK j) = some (some (j : Int)) := rfl
    have p2 : partOf (.int ((j : Int) + 1)) = some (some ((j : Int) + 1)) := rfl
    have p3 : partOf (.int ((j : Int) + 2)) = some (some ((j : Int) + 2)) := rfl
    have k1 : addF (natK j) (.int 1) = some (.int ((j : Int) + 1)) := rfl
    have k2 : addF (natK j) (.int 2) = some (.int ((j : Int) + 2)) := rfl
    have e2 : eqF (.str (kdS Kd.strike)) (.str ⟨#[115, 116, 114, 105, 107, 101]⟩) = some true := e2
    generalize ((j - 1 : Nat) : Int) = jm at mx s1 p0
    generalize natK j = jd at *
    generalize mpD (Kd.strike, w) = mp at *
    generalize PyData.str (kdS Kd.strike) = kk at *
    generalize mrD r = mr at *
    simp [lS, a1, b0, b1, e2, -pr_max2, sb, mx, p0, p1, p2, p3, s1, s2, k1, k2, ad, im]
  · rw [decide_eq_false c] at e2
    rw [vain_not h1 c]
    generalize natK j = jd at *
    generalize mpD p = mp at *
    generalize PyData.str (kdS p.1) = kk at *
    generalize mrD r = mr at *
    simp [lS, a1, b0, e2]
end
end K24
end

section
namespace K24
open PySem DV
theorem aheadLen (r : Row) : (aheadN r).length ≤ r.length := by
  unfold aheadN
  rw [List.length_map]
  exact List.length_filter_le _ _
theorem behindLen (r : Row) : (behindN r).length ≤ r.length := by
  unfold behindN
  rw [List.length_map]
  exact List.length_filter_le _ _
theorem mr_nil {r : Row} (h : r.length ≤ 100) : eqF (mrD r) (.tuple []) = some r.isEmpty := by
  have s := sm_mr h
  have := eq_nilT (xs := r.map mpD) (ok_al s.1 (Nat.le_trans s.2.1 (by omega)))
  rw [List.isEmpty_map] at this
  exact this
theorem noMut_sm {m c : Nat} {d : D} (h : Sm m c d) : noMut d = true := al_noMut _ h.1
theorem cutS_from (ws : List Str) (j : Nat) : slF (some (j : Int)) none (strT ws) = some (strT (ws.drop j)) := by
  show some (PyData.tuple (cut (ws.map PyData.str) (some (j : Int)) none)) = _
  rw [cut_from, ← List.map_drop]
  rfl
theorem cutS_to (ws : List Str) (j : Nat) : slF none (some (j : Int)) (strT ws) = some (strT (ws.take j)) := by
  show some (PyData.tuple (cut (ws.map PyData.str) none (some (j : Int)))) = _
  rw [cut_to, ← List.map_take]
  rfl
theorem add_strT {a b : List Str} (h : a.length + b.length ≤ 1000) : addF (strT a) (strT b) = some (strT (a ++ b)) := by
  show (if (a.map PyData.str).length + (b.map PyData.str).length ≤ sizeLine then some (PyData.tuple (a.map PyData.str ++ b.map PyData.str)) else none) = _
  rw [if_pos (by rw [List.length_map, List.length_map, sizeLine_eq]; omega), ← List.map_append]
  rfl
theorem sm_cd {b : Nat × Row} (h : b.2.length ≤ 100) : Sm 3 700 (cdD b) := (Sm.tup (xs := [natK b.1, mrD b.2]) (m := 2) (c := 301) (k := 2) (by
  intro x hx
  simp only [List.mem_cons, List.not_mem_nil, or_false] at hx
  rcases hx with rfl | rfl
  · exact (sm_nat _).up (by omega) (by omega)
  · exact sm_mr h) (by simp) (by omega)).up (by omega) (by omega)

section
variable {C : Call} {s : D} {ds : List Int} {k : Nat} {x2 x3 x4 x5 x6 x7 x8 x9 x10 x12 x13 x14 x15 x18 x19 x20 x21 : Sl} {o11 o16 o17 : Option D} {r : Row}
theorem eK (hl : r.length ≤ 1000) : evE C (.prim .len (.cons (.comp [16, 17] (.tp (.cons (.nm 16) (.cons (.nm 17) .nil))) (.val (.var 22)) (.cons (.prim (.cmp .Eq) (.cons (.var 16) (.cons (.con (.str ⟨#[107, 101, 101, 112]⟩)) .nil))) .nil) (.con (.int 1))) .nil)) (.sh s :: .ow (wN ds k) :: [x2, x3, x4, x5, x6, x7, x8, x9, x10, sl o11, x12, x13, x14, x15, sl o16, sl o17, x18, x19, x20, x21, .sh (mrD r)]) = some (natK (kc r), .sh s :: .ow (wN ds k) :: [x2, x3, x4, x5, x6, x7, x8, x9, x10, sl o11, x12, x13, x14, x15, sl o16, sl o17, x18, x19, x20, x21, .sh (mrD r)]) := by
  have e1 : evE C (.comp [16, 17] (.tp (.cons (.nm 16) (.cons (.nm 17) .nil))) (.val (.var 22)) (.cons (.prim (.cmp .Eq) (.cons (.var 16) (.cons (.con (.str ⟨#[107, 101, 101, 112]⟩)) .nil))) .nil) (.con (.int 1))) (.sh s :: .ow (wN ds k) :: [x2, x3, x4, x5, x6, x7, x8, x9, x10, sl o11, x12, x13, x14, x15, sl o16, sl o17, x18, x19, x20, x21, .sh (mrD r)]) = some (.list ((r.filter fun p => decide (p.1 = .keep)).map fun _ => PyData.int 1), .sh s :: .ow (wN ds k) :: [x2, x3, x4, x5, x6, x7, x8, x9, x10, sl o11, x12, x13, x14, x15, sl o16, sl o17, x18, x19, x20, x21, .sh (mrD r)]) := by
    refine comp_fm r mpD _ _ (by simp [mrD]) (by cases o16 <;> cases o17 <;> rfl) (by rw [sizeLine_eq]; omega) fun p hp => ⟨.sh s :: .ow (wN ds k) :: [x2, x3, x4, x5, x6, x7, x8, x9, x10, sl o11, x12, x13, x14, x15, .sh (.str (kdS p.1)), .sh (.str p.2), x18, x19, x20, x21, .sh (mrD r)], by exact rfl, by exact rfl, ?_, fun _ => by simp⟩
    have q : eqF (.str (kdS p.1)) (.str ⟨#[107, 101, 101, 112]⟩) = some (decide (p.1 = .keep)) := by rw [eqSSw, kd_keep]
    generalize PyData.str (kdS p.1) = kk at q
    generalize decide (p.1 = .keep) = b at q ⊢
    simp [q]
  have ln : primF .len [.list ((r.filter fun p => decide (p.1 = .keep)).map fun _ => PyData.int 1)] = some (natK (kc r)) := by
    show some (PyData.int ((r.filter fun p => decide (p.1 = .keep)).map fun _ => PyData.int 1).length) = _
    rw [List.length_map]
    rfl
  rw [ev_prim, ops_comp, e1]
  generalize PyData.list ((r.filter fun p => decide (p.1 = .keep)).map fun _ => PyData.int 1) = L at ln
  show ((primF .len [L]).map fun d => (d, _)) = _
  rw [ln]
  rfl
end
theorem ev (ns : List Int) (h : ns.length ≤ 63) : evF tab 40 24 [.list (ns.map .int)] = some (.bool true, []) := by
  obtain ⟨ds, hd⟩ := draws_ok (T := tab) (n := 38) (f := 14) rfl ns 400 h (by decide)
  have hd' : evF tab 39 14 [.list (ns.map .int), .int 400] = some (.list (ds.map .int), []) := hd
  refine call_eq (fi := fi24) rfl [.sh (.list (ns.map .int))] rfl ?_
  show Run _ fi24.body [.sh (.list (ns.map .int)), .no, .no, .no, .no, .no, .no, .no, .no, .no, .no, .no, .no, .no, .no, .no, .no, .no, .no, .no, .no, .no, .no] _
  unfold fi24
  generalize hs : PyData.list (ns.map .int) = s at hd'
  have hsl : 2000000 ≤ sizeLine := by rw [sizeLine_eq]; decide
  refine run_nx (ρ' := lS s ds 0 .no .no .no .no .no .no .no .no .no (sl none) .no .no .no .no (sl none) (sl none) .no .no .no .no) ?_ ?_
  · simp [hd', lS, wN, wD, pairUp, dputs, atomK, sl]
    rfl
  refine run_forA (ρ' := lS s ds 0 .no .no .no .no .no .no .no .no .no (sl none) .no .no .no .no (sl none) (sl none) .no .no .no .no) (List.range 4) natK (fun _ ρ => ∃ k x2 x3 x4 x5 x6 x7 x8 x9 x10 o11 x12 x13 x14 x15 o16 o17 x18 x19 x20 x21, ρ = lS s ds k x2 x3 x4 x5 x6 x7 x8 x9 x10 (sl o11) x12 x13 x14 x15 (sl o16) (sl o17) x18 x19 x20 x21) ?_ ⟨0, .no, .no, .no, .no, .no, .no, .no, .no, .no, none, .no, .no, .no, .no, none, none, .no, .no, .no, .no, rfl⟩ ?_ ?_
  · have r4 : rngF [.int 4] = some ((List.range 4).map natK) := rng_nat (m := 4) (by omega)
    simp [lS, r4]
  · rintro ys turn zs ρ' hl ⟨k, x2, x3, x4, x5, x6, x7, x8, x9, x10, o11, x12, x13, x14, x15, o16, o17, x18, x19, x20, x21, rfl⟩
    clear hl
    refine ⟨lS s ds k (.sh (natK turn)) x3 x4 x5 x6 x7 x8 x9 x10 (sl o11) x12 x13 x14 x15 (sl o16) (sl o17) x18 x19 x20 x21, rfl, ?_⟩
    generalize Sl.sh (natK turn) = x2
    obtain ⟨m0, k1, hm0, e1⟩ := next24 (n := 38) ds k 7 (by decide)
    have e1 : evF tab 39 15 [wN ds k, .int 7] = some (natK m0, [wN ds k1]) := e1
    have rr : rngF [natK m0] = some ((List.range m0).map natK) := rng_nat (m := m0) (by omega)
    obtain ⟨r, k2, rl, rw1, e2⟩ := comp_draw (C := evF tab 39) (v := 9) (it := (.rng (.cons (.call 15 (.cons (.io 1) (.cons (.con (.int 7)) .nil))) .nil))) (elt := (.tup (.cons (.call 17 (.cons (.io 1) (.cons (.lst (.cons (.con (.str ⟨#[107, 101, 101, 112]⟩)) (.cons (.con (.str ⟨#[115, 116, 114, 105, 107, 101]⟩)) (.cons (.con (.str ⟨#[112, 117, 116]⟩)) .nil)))) .nil))) (.cons (.call 17 (.cons (.io 1) (.cons (.lst (.cons (.con (.str ⟨#[97]⟩)) (.cons (.con (.str ⟨#[98]⟩)) (.cons (.con (.str ⟨#[97, 98]⟩)) (.cons (.con (.str ⟨#[97]⟩)) .nil))))) .nil))) .nil)))) (ρ := lS s ds k x2 x3 x4 x5 x6 x7 x8 x9 x10 (sl o11) x12 x13 x14 x15 (sl o16) (sl o17) x18 x19 x20 x21) (xs := (List.range m0).map natK) (s := s) (ds := ds) (k := k1) (r := [x2, x3, x4, x5, x6, x7, x8, x9, x10, sl o11, x12, x13, x14, x15, sl o16, sl o17, x18, x19, x20, x21, .no]) mpD (fun a => a.2 ∈ wordM) (by
        simp [lS, e1, rr]) (by cases o11 <;> rfl) (by rw [List.length_map, List.length_range]; omega) (by simp) (fun x hx k => by
      obtain ⟨q1, k1, hq1, f1⟩ := pick24 (n := 37) ds k (kindL.map fun a => .str (kdS a)) (by decide)
      obtain ⟨kd, _, rfl⟩ := List.mem_map.mp hq1
      obtain ⟨q2, k2, hq2, f2⟩ := pick24 (n := 37) ds k1 (wordM.map .str) (by decide)
      obtain ⟨w, hw, rfl⟩ := List.mem_map.mp hq2
      have f1 : evF tab 39 17 [wN ds k, .list [.str ⟨#[107, 101, 101, 112]⟩, .str ⟨#[115, 116, 114, 105, 107, 101]⟩, .str ⟨#[112, 117, 116]⟩]] = some (.str (kdS kd), [wN ds k1]) := f1
      have f2 : evF tab 39 17 [wN ds k1, .list [.str ⟨#[97]⟩, .str ⟨#[98]⟩, .str ⟨#[97, 98]⟩, .str ⟨#[97]⟩]] = some (.str w, [wN ds k2]) := f2
      exact ⟨(kd, w), k2, by simp [f1, f2, mpD], hw⟩)
    rw [List.length_map, List.length_range] at rl
    have rok : RowOk r := ⟨by omega, fun p hp => word_M (rw1 p hp)⟩
    have hw : ∀ p ∈ r, p.2.length ≤ 100 := fun p hp => (rok.2 p hp).2
    have r6 : r.length ≤ 6 := by omega
    refine run_nx (ρ' := lS s ds k2 x2 (.sh (mrD r)) x4 x5 x6 x7 x8 x9 x10 (sl o11) x12 x13 x14 x15 (sl o16) (sl o17) x18 x19 x20 x21) (by rw [ex_asg, ev_prim, ops_comp, e2]; rfl) ?_
    clear e1 e2 rr
    generalize k2 = k
    obtain ⟨line, k1, hline, e1⟩ := next24 (n := 38) ds k 5 (by decide)
    have e1 : evF tab 39 15 [wN ds k, .int 5] = some (natK line, [wN ds k1]) := e1
    refine run_nx (ρ' := lS s ds k1 x2 (.sh (mrD r)) (.sh (natK line)) x5 x6 x7 x8 x9 x10 (sl o11) x12 x13 x14 x15 (sl o16) (sl o17) x18 x19 x20 x21) (by simp [lS, e1]) ?_
    clear e1
    generalize k1 = k
    have eA' := fun x12 x13 => eA (C := evF tab 39) (s := s) (ds := ds) (k := k) (x2 := x2) (x4 := .sh (natK line)) (x5 := x5) (x6 := x6) (x7 := x7) (x8 := x8) (x9 := x9) (x10 := x10) (x12 := x12) (x13 := x13) (x14 := x14) (x15 := x15) (x18 := x18) (x19 := x19) (x20 := x20) (x21 := x21) (o11 := o11) (o16 := o16) (o17 := o17) (r := r) (by omega)
    have eB' := fun x12 x13 => eB (C := evF tab 39) (s := s) (ds := ds) (k := k) (x2 := x2) (x4 := .sh (natK line)) (x5 := x5) (x6 := x6) (x7 := x7) (x8 := x8) (x9 := x9) (x10 := x10) (x12 := x12) (x13 := x13) (x14 := x14) (x15 := x15) (x18 := x18) (x19 := x19) (x20 := x20) (x21 := x21) (o11 := o11) (o16 := o16) (o17 := o17) (r := r) (by omega)
    refine run_nx (ρ' := lS s ds k x2 (.sh (mrD r)) (.sh (natK line)) x5 x6 x7 x8 x9 x10 (sl o11) (.sh (strT (aheadN r))) (.sh (strT (behindN r))) x14 x15 (sl o16) (sl o17) x18 x19 x20 x21) (by
      rw [ex_par, ops_prim, eA']
      simp only [Option.bind_some, ops_prim, eB', ops_nil, Option.map_some]
      have n1 := noMut_sm (sm_strT (ws := aheadN r) (by have := aheadLen r; omega))
      have n2 := noMut_sm (sm_strT (ws := behindN r) (by have := behindLen r; omega))
      generalize strT (aheadN r) = a at n1
      generalize strT (behindN r) = b at n2
      simp [lS]) ?_
    clear eA' eB'
    refine run_nx (ρ' := lS s ds k x2 (.sh (mrD r)) (.sh (natK line)) (.sh (.str (prN r))) x6 x7 x8 x9 x10 (sl o11) (.sh (strT (aheadN r))) (.sh (strT (behindN r))) x14 x15 (sl o16) (sl o17) x18 x19 x20 x21) (by rw [ex_asg, eT (by omega) hw]; rfl) ?_
    have g4 : evF tab 39 4 [mrD r] = some (strT (aheadN r), []) := ahead_ok (n := 38) (by omega)
    have g5 : evF tab 39 5 [mrD r] = some (strT (behindN r), []) := behind_ok (n := 38) (by omega)
    have g6 : evF tab 39 6 [mrD r, natK line] = some (natK (inkN line false r), []) := ink_ok (n := 38) (by omega)
    have g13 : evF tab 39 13 [mrD r] = some (.str (prN r), []) := print_ok (n := 38) (by omega) hw
    have g19 : evF tab 39 19 [mrD r, natK line] = some (natK (inkN line false r), []) := lawink_ok (n := 38) (by omega) (by omega)
    have ss : evF tab 39 16 [.tuple [strT (aheadN r), strT (behindN r), natK (inkN line false r), .str (prN r)], .tuple [strT (aheadN r), strT (behindN r), natK (inkN line false r), .str (prN r)]] = some (.bool true, []) := same_sm (n := 38) (Sm.tup (m := 1) (c := 101) (k := 4) (by
      intro x hx
      simp only [List.mem_cons, List.not_mem_nil, or_false] at hx
      rcases hx with rfl | rfl | rfl | rfl
      · exact sm_strT (by have := aheadLen r; omega)
      · exact sm_strT (by have := behindLen r; omega)
      · exact (sm_nat _).up (by omega) (by omega)
      · exact (sm_str _).up (by omega) (by omega)) (by simp) (by omega)) (by omega) (by omega)
    refine run_ite (k := false) (ρ' := lS s ds k x2 (.sh (mrD r)) (.sh (natK line)) (.sh (.str (prN r))) x6 x7 x8 x9 x10 (sl o11) (.sh (strT (aheadN r))) (.sh (strT (behindN r))) x14 x15 (sl o16) (sl o17) x18 x19 x20 x21) (by
      generalize PyData.str (prN r) = pr at *
      generalize natK (inkN line false r) = ik at *
      generalize strT (aheadN r) = ah at *
      generalize strT (behindN r) = bh at *
      simp [lS, g4, g5, g6, g13, g19, ss]) (fun q => nomatch q) fun _ => run_nil ?_
    clear g4 g5 g6 g13 g19 ss
    refine run_nx (ρ' := lS s ds k x2 (.sh (mrD r)) (.sh (natK line)) (.sh (.str (prN r))) (.sh (.list ((vainN r).map natK))) x7 x8 x9 x10 (sl o11) (.sh (strT (aheadN r))) (.sh (strT (behindN r))) x14 x15 (sl o16) (sl o17) x18 x19 x20 x21) (by rw [ex_asg, eV (by omega)]; rfl) ?_
    have g12 : evF tab 39 12 [mrD r] = some (.tuple ((vainN r).map natK), []) := needless_ok (n := 38) (by omega)
    have sv : evF tab 39 16 [.tuple ((vainN r).map natK), .tuple ((vainN r).map natK)] = some (.bool true, []) := same_sm (n := 38) (sm_nats (by
      unfold vainN
      have := List.length_filter_le (vainB r) (List.range r.length)
      rw [List.length_range] at this
      omega)) (by omega) (by omega)
    refine run_ite (k := false) (ρ' := lS s ds k x2 (.sh (mrD r)) (.sh (natK line)) (.sh (.str (prN r))) (.sh (.list ((vainN r).map natK))) x7 x8 x9 x10 (sl o11) (.sh (strT (aheadN r))) (.sh (strT (behindN r))) x14 x15 (sl o16) (sl o17) x18 x19 x20 x21) (by
      generalize (vainN r).map natK = vl at *
      simp [lS, g12, sv]) (fun q => nomatch q) fun _ => run_nil ?_
    clear g12 sv
    generalize Sl.sh (PyData.list ((vainN r).map natK)) = x6
    generalize Sl.sh (PyData.str (prN r)) = x5
    have en := mr_nil (r := r) (by omega)
    refine run_iteI (k := !r.isEmpty) (ρ' := lS s ds k x2 (.sh (mrD r)) (.sh (natK line)) x5 x6 x7 x8 x9 x10 (sl o11) (.sh (strT (aheadN r))) (.sh (strT (behindN r))) x14 x15 (sl o16) (sl o17) x18 x19 x20 x21) (fun ρ => ∃ k x10 x14 o16 o17, ρ = lS s ds k x2 (.sh (mrD r)) (.sh (natK line)) x5 x6 x7 x8 x9 x10 (sl o11) (.sh (strT (aheadN r))) (.sh (strT (behindN r))) x14 x15 (sl o16) (sl o17) x18 x19 x20 x21) (by
      generalize mrD r = mr at *
      simp [lS, en]) (fun hc => ?_) (fun hc => run_nil ⟨_, rfl, k, x10, x14, o16, o17, rfl⟩) ?_
    · have rp : 0 < r.length := by
        cases r with
        | nil => cases hc
        | cons _ _ => exact Nat.succ_pos _
      have ln := len_mr r
      obtain ⟨place, k1, hpl, e1⟩ := next24 (n := 38) ds k r.length rp
      have e1 : evF tab 39 15 [wN ds k, .int (r.length : Int)] = some (natK place, [wN ds k1]) := e1
      refine run_nx (ρ' := lS s ds k1 x2 (.sh (mrD r)) (.sh (natK line)) x5 x6 x7 x8 x9 x10 (sl o11) (.sh (strT (aheadN r))) (.sh (strT (behindN r))) (.sh (natK place)) x15 (sl o16) (sl o17) x18 x19 x20 x21) (by
        generalize mrD r = mr at *
        simp [lS, ln, e1]) ?_
      have h1 : r[place]? = some r[place] := List.getElem?_eq_getElem hpl
      generalize r[place] = q at h1
      have a1 := at_mrx h1
      refine run_nx (ρ' := lS s ds k1 x2 (.sh (mrD r)) (.sh (natK line)) x5 x6 x7 x8 x9 x10 (sl o11) (.sh (strT (aheadN r))) (.sh (strT (behindN r))) (.sh (natK place)) x15 (sl (some (.str (kdS q.1)))) (sl (some (.str q.2))) x18 x19 x20 x21) (by
        have mq : mpD q = .tuple [.str (kdS q.1), .str q.2] := rfl
        rw [mq] at a1
        generalize mrD r = mr at *
        generalize natK place = pl at *
        simp [lS, a1, sl]) ?_
      have e2 : eqF (.str (kdS q.1)) (.str ⟨#[112, 117, 116]⟩) = some (decide (q.1 = .put)) := by rw [eqSSw, kd_put]
      have c1 := cut_till r place
      have c2 := cut_after r place
      have hown : (if q.1 = .put then [] else [(Kd.keep, q.2)] : Row).length ≤ 1 := by
        by_cases c : q.1 = .put
        · rw [if_pos c]; exact Nat.zero_le _
        · rw [if_neg c]; exact Nat.le_refl _
      have d1 := add_mr (a := r.take place) (b := if q.1 = .put then [] else [(.keep, q.2)]) (by rw [List.length_take]; omega)
      have d2 := add_mr (a := r.take place ++ (if q.1 = .put then [] else [(.keep, q.2)])) (b := r.drop (place + 1)) (by rw [List.length_append, List.length_take, List.length_drop]; omega)
      have stl : (standN r place q).length ≤ 100 := by
        unfold standN
        rw [List.length_append, List.length_append, List.length_take, List.length_drop]
        omega
      have so : evF tab 39 11 [mrD r, natK place] = some (mrD (standN r place q), []) := stand_ok (n := 38) (by omega) h1
      have ss : evF tab 39 16 [mrD (standN r place q), mrD (standN r place q)] = some (.bool true, []) := same_sm (n := 38) (sm_mr stl) (by omega) (by omega)
      refine run_nx (ρ' := lS s ds k1 x2 (.sh (mrD r)) (.sh (natK line)) x5 x6 x7 x8 x9 (.sh (mrD (standN r place q))) (sl o11) (.sh (strT (aheadN r))) (.sh (strT (behindN r))) (.sh (natK place)) x15 (sl (some (.str (kdS q.1)))) (sl (some (.str q.2))) x18 x19 x20 x21) (by
        have ow := ownRow q
        have pk : partOf (natK place) = some (some (place : Int)) := rfl
        have pk1 : partOf (.int ((place : Int) + 1)) = some (some ((place : Int) + 1)) := rfl
        have ak : addF (natK place) (.int 1) = some (.int ((place : Int) + 1)) := rfl
        unfold standN
        generalize mrD (r.take place ++ (if q.1 = .put then [] else [(Kd.keep, q.2)]) ++ r.drop (place + 1)) = res at *
        generalize mrD (r.take place ++ (if q.1 = .put then [] else [(Kd.keep, q.2)])) = mid at *
        generalize mrD (if q.1 = .put then [] else [(Kd.keep, q.2)]) = own at *
        generalize natK place = pl at *
        generalize mrD r = mr at *
        generalize PyData.str (kdS q.1) = kk at *
        by_cases c : q.1 = .put
        · rw [decide_eq_true c] at e2
          rw [if_pos c] at ow
          subst ow
          simp [lS, sl, e2, pk, pk1, ak, c1, c2, d1, d2]
        · rw [decide_eq_false c] at e2
          rw [if_neg c] at ow
          subst ow
          simp [lS, sl, e2, pk, pk1, ak, c1, c2, d1, d2]) ?_
      exact run_ite (k := false) (ρ' := lS s ds k1 x2 (.sh (mrD r)) (.sh (natK line)) x5 x6 x7 x8 x9 (.sh (mrD (standN r place q))) (sl o11) (.sh (strT (aheadN r))) (.sh (strT (behindN r))) (.sh (natK place)) x15 (sl (some (.str (kdS q.1)))) (sl (some (.str q.2))) x18 x19 x20 x21) (by
        generalize mrD (standN r place q) = st at *
        generalize natK place = pl at *
        generalize mrD r = mr at *
        simp [lS, so, ss]) (fun q => nomatch q) fun _ => run_nil (run_nil ⟨_, rfl, k1, _, _, _, _, rfl⟩)
    rintro _ ⟨k, x10, x14, o16, o17, rfl⟩
    clear en
    obtain ⟨old, k1, ol, ow, e1⟩ := text_ok (n := 36) ds k 3 (by omega)
    obtain ⟨new, k2, nl, nw, e2⟩ := text_ok (n := 36) ds k1 3 (by omega)
    have e1 : evF tab 39 18 [wN ds k, .int 3] = some (strT old, [wN ds k1]) := e1
    have e2 : evF tab 39 18 [wN ds k1, .int 3] = some (strT new, [wN ds k2]) := e2
    refine run_nx (ρ' := lS s ds k2 x2 (.sh (mrD r)) (.sh (natK line)) x5 x6 (.sh (strT new)) x8 x9 x10 (sl o11) (.sh (strT (aheadN r))) (.sh (strT (behindN r))) x14 (.sh (strT old)) (sl o16) (sl o17) x18 x19 x20 x21) (by
      have n1 := noMut_sm (sm_strT (ws := old) (by omega))
      have n2 := noMut_sm (sm_strT (ws := new) (by omega))
      generalize strT old = a at *
      generalize strT new = b at *
      simp [lS, e1, e2]) ?_
    clear e1 e2
    generalize k2 = k
    obtain ⟨x, k1, hx, e1⟩ := pick24 (n := 37) ds k [strT new, strT new, strT (old.drop 1 ++ new.take 1), strT (old.take 1 ++ new.take 2)] (by simp)
    have e1 : evF tab 39 17 [wN ds k, .list [strT new, strT new, strT (old.drop 1 ++ new.take 1), strT (old.take 1 ++ new.take 2)]] = some (x, [wN ds k1]) := e1
    have hx2 : ∃ us : List Str, x = strT us ∧ us.length ≤ 4 ∧ ∀ w ∈ us, w ∈ wordL := by
      have mem : ∀ (a b : List Str), (∀ w ∈ a, w ∈ old ∨ w ∈ new) → (∀ w ∈ b, w ∈ old ∨ w ∈ new) → ∀ w ∈ a ++ b, w ∈ wordL := fun a b ha hb w hw => by
        rcases List.mem_append.mp hw with q | q
        · exact (ha w q).elim (ow w) (nw w)
        · exact (hb w q).elim (ow w) (nw w)
      simp only [List.mem_cons, List.not_mem_nil, or_false] at hx
      rcases hx with rfl | rfl | rfl | rfl
      · exact ⟨new, rfl, by omega, nw⟩
      · exact ⟨new, rfl, by omega, nw⟩
      · exact ⟨_, rfl, by rw [List.length_append, List.length_drop, List.length_take]; omega, mem _ _ (fun w q => .inl (List.mem_of_mem_drop q)) (fun w q => .inr (List.mem_of_mem_take q))⟩
      · exact ⟨_, rfl, by rw [List.length_append, List.length_take, List.length_take]; omega, mem _ _ (fun w q => .inl (List.mem_of_mem_take q)) (fun w q => .inr (List.mem_of_mem_take q))⟩
    refine run_nx (ρ' := lS s ds k1 x2 (.sh (mrD r)) (.sh (natK line)) x5 x6 (.sh x) x8 x9 x10 (sl o11) (.sh (strT (aheadN r))) (.sh (strT (behindN r))) x14 (.sh (strT old)) (sl o16) (sl o17) x18 x19 x20 x21) (by
      have c1 : slF (some 1) none (strT old) = some (strT (old.drop 1)) := cutS_from old 1
      have c2 : slF none (some 1) (strT new) = some (strT (new.take 1)) := cutS_to new 1
      have c3 : slF none (some 1) (strT old) = some (strT (old.take 1)) := cutS_to old 1
      have c4 : slF none (some 2) (strT new) = some (strT (new.take 2)) := cutS_to new 2
      have d1 := add_strT (a := old.drop 1) (b := new.take 1) (by rw [List.length_drop, List.length_take]; omega)
      have d2 := add_strT (a := old.take 1) (b := new.take 2) (by rw [List.length_take, List.length_take]; omega)
      have p1 : partOf (.int 1) = some (some 1) := rfl
      have p2 : partOf (.int 2) = some (some 2) := rfl
      generalize strT (old.drop 1 ++ new.take 1) = y1 at *
      generalize strT (old.take 1 ++ new.take 2) = y2 at *
      generalize strT (old.drop 1) = z1 at *
      generalize strT (new.take 1) = z2 at *
      generalize strT (old.take 1) = z3 at *
      generalize strT (new.take 2) = z4 at *
      generalize strT old = so at *
      generalize strT new = sn at *
      simp [lS, p1, p2, c1, c2, c3, c4, d1, d2, e1]) ?_
    obtain ⟨us, rfl, ul, uw⟩ := hx2
    clear e1 hx nw nl
    generalize k1 = k
    have ol : old.length ≤ 4 := by omega
    have la : evF tab 39 20 [strT old, strT us] = some (.list ((allR old us).map mrD), []) := lawall_ok (n := 38) ol ul
    have al := allR_len ol ul
    refine run_nx (ρ' := lS s ds k x2 (.sh (mrD r)) (.sh (natK line)) x5 x6 (.sh (strT us)) (.sh (.list ((allR old us).map mrD))) x9 x10 (sl o11) (.sh (strT (aheadN r))) (.sh (strT (behindN r))) x14 (.sh (strT old)) (sl o16) (sl o17) x18 x19 x20 x21) (by simp [lS, la]) ?_
    have mx := rows_kept (allR_perm old us) (allR_ne old us)
    have e3 : evE (evF tab 39) (.comp [22] (.nm 22) (.val (.var 8)) .nil (.prim .len (.cons (.comp [16, 17] (.tp (.cons (.nm 16) (.cons (.nm 17) .nil))) (.val (.var 22)) (.cons (.prim (.cmp .Eq) (.cons (.var 16) (.cons (.con (.str ⟨#[107, 101, 101, 112]⟩)) .nil))) .nil) (.con (.int 1))) .nil))) (lS s ds k x2 (.sh (mrD r)) (.sh (natK line)) x5 x6 (.sh (strT us)) (.sh (.list ((allR old us).map mrD))) x9 x10 (sl o11) (.sh (strT (aheadN r))) (.sh (strT (behindN r))) x14 (.sh (strT old)) (sl o16) (sl o17) x18 x19 x20 x21) = some (.list (((allR old us).map kc).map natK), lS s ds k x2 (.sh (mrD r)) (.sh (natK line)) x5 x6 (.sh (strT us)) (.sh (.list ((allR old us).map mrD))) x9 x10 (sl o11) (.sh (strT (aheadN r))) (.sh (strT (behindN r))) x14 (.sh (strT old)) (sl o16) (sl o17) x18 x19 x20 x21) := by
      rw [List.map_map]
      refine comp_m (allR old us) mrD _ (by simp [lS]) rfl (by omega) fun q hq => ⟨.sh s :: .ow (wN ds k) :: [x2, .sh (mrD r), .sh (natK line), x5, x6, .sh (strT us), .sh (.list ((allR old us).map mrD)), x9, x10, sl o11, .sh (strT (aheadN r)), .sh (strT (behindN r)), x14, .sh (strT old), sl o16, sl o17, x18, x19, x20, x21, .sh (mrD q)], by exact rfl, by exact rfl, ?_⟩
      exact eK (by have := (allR_row ol ul hq).2.2; omega)
    refine run_nx (ρ' := lS s ds k x2 (.sh (mrD r)) (.sh (natK line)) x5 x6 (.sh (strT us)) (.sh (.list ((allR old us).map mrD))) (.sh (natK (keptN old us 0 0))) x10 (sl o11) (.sh (strT (aheadN r))) (.sh (strT (behindN r))) x14 (.sh (strT old)) (sl o16) (sl o17) x18 x19 x20 x21) (by
      rw [ex_asg, ev_prim, ops_comp, e3]
      generalize PyData.list (((allR old us).map kc).map natK) = L at mx
      generalize natK (keptN old us 0 0) = kn at mx
      simp [-pr_max1, mx, lS]) ?_
    clear e3 mx
    obtain ⟨b, hb, li⟩ := leastink_ok (n := 37) (line := line) (old := old) (new := us) (by omega) (by omega)
    have li : evF tab 39 7 [strT old, strT us, natK line] = some (cdD b, []) := li
    have ll : evF tab 39 21 [strT old, strT us, natK line] = some (cdD b, []) := lawleast_ok (n := 37) ol ul (by omega) hb
    have bl := best_len old us line (Nat.zero_le _) (Nat.zero_le _) hb
    have lw : lenF (.list ((allR old us).map mrD)) = some (natK (allR old us).length) := by
      show some (PyData.int ((allR old us).map mrD).length) = _
      rw [List.length_map]
      rfl
    have cn : evF tab 39 9 [strT old, strT us] = some (natK (cntN old us 0 0), []) := count_ok (n := 38) (by omega) (by omega)
    have cl : cntN old us 0 0 = (allR old us).length := (allR_perm old us).length_eq.symm
    rw [cl] at cn
    have kp : evF tab 39 10 [strT old, strT us] = some (natK (keptN old us 0 0), []) := kept_ok (n := 38) (by omega) (by omega)
    refine run_nx (ρ' := lS s ds k x2 (.sh (mrD r)) (.sh (natK line)) x5 x6 (.sh (strT us)) (.sh (.list ((allR old us).map mrD))) (.sh (natK (keptN old us 0 0))) (.sh (.tuple [cdD b, natK (allR old us).length, natK (keptN old us 0 0)])) (sl o11) (.sh (strT (aheadN r))) (.sh (strT (behindN r))) x14 (.sh (strT old)) (sl o16) (sl o17) x18 x19 x20 x21) (by
      generalize PyData.list ((allR old us).map mrD) = L at *
      generalize natK (allR old us).length = n1 at *
      generalize natK (keptN old us 0 0) = n2 at *
      generalize cdD b = cd at *
      simp [lS, ll, lw]) ?_
    have ss : evF tab 39 16 [.tuple [cdD b, natK (allR old us).length, natK (keptN old us 0 0)], .tuple [cdD b, natK (allR old us).length, natK (keptN old us 0 0)]] = some (.bool true, []) := same_sm (n := 38) (Sm.tup (m := 3) (c := 700) (k := 3) (by
      intro x hx
      simp only [List.mem_cons, List.not_mem_nil, or_false] at hx
      rcases hx with rfl | rfl | rfl
      · exact sm_cd (by omega)
      · exact (sm_nat _).up (by omega) (by omega)
      · exact (sm_nat _).up (by omega) (by omega)) (by simp) (by omega)) (by omega) (by omega)
    refine run_ite (k := false) (ρ' := lS s ds k x2 (.sh (mrD r)) (.sh (natK line)) x5 x6 (.sh (strT us)) (.sh (.list ((allR old us).map mrD))) (.sh (natK (keptN old us 0 0))) (.sh (.tuple [cdD b, natK (allR old us).length, natK (keptN old us 0 0)])) (sl o11) (.sh (strT (aheadN r))) (.sh (strT (behindN r))) x14 (.sh (strT old)) (sl o16) (sl o17) x18 x19 x20 x21) (by
      generalize PyData.list ((allR old us).map mrD) = L at *
      generalize natK (allR old us).length = n1 at *
      generalize natK (keptN old us 0 0) = n2 at *
      generalize cdD b = cd at *
      simp [lS, li, cn, kp, ss]) (fun q => nomatch q) fun _ => run_nil ?_
    clear li ll lw cn kp ss
    generalize Sl.sh (PyData.tuple [cdD b, natK (allR old us).length, natK (keptN old us 0 0)]) = x10
    generalize Sl.sh (natK (keptN old us 0 0)) = x9
    generalize Sl.sh (PyData.list ((allR old us).map mrD)) = x8
    generalize Sl.sh (strT us) = x7
    generalize Sl.sh (strT old) = x15
    have wsok : WsOk (aheadN r) := ⟨by have := aheadLen r; omega, fun w hw2 => by
      unfold aheadN at hw2
      obtain ⟨p, hp, rfl⟩ := List.mem_map.mp hw2
      exact (rok.2 p (List.mem_filter.mp hp).1).1⟩
    refine run_forA (ρ' := lS s ds k x2 (.sh (mrD r)) (.sh (natK line)) x5 x6 x7 x8 x9 x10 (sl o11) (.sh (strT (aheadN r))) (.sh (strT (behindN r))) x14 x15 (sl o16) (sl o17) x18 x19 x20 x21) (List.range 2) natK (fun _ ρ => ∃ k o11 x18 x19 x20 x21, ρ = lS s ds k x2 (.sh (mrD r)) (.sh (natK line)) x5 x6 x7 x8 x9 x10 (sl o11) (.sh (strT (aheadN r))) (.sh (strT (behindN r))) x14 x15 (sl o16) (sl o17) x18 x19 x20 x21) (by
      have r2 : rngF [.int 2] = some ((List.range 2).map natK) := rng_nat (m := 2) (by omega)
      simp [lS, r2]) ⟨k, o11, x18, x19, x20, x21, rfl⟩ ?_ ?_
    · rintro ys t zs ρ' hl ⟨k, o11, x18, x19, x20, x21, rfl⟩
      refine ⟨lS s ds k x2 (.sh (mrD r)) (.sh (natK line)) x5 x6 x7 x8 x9 x10 (sl (some (natK t))) (.sh (strT (aheadN r))) (.sh (strT (behindN r))) x14 x15 (sl o16) (sl o17) x18 x19 x20 x21, by cases o11 <;> rfl, ?_⟩
      generalize some (natK t) = o11
      obtain ⟨v, b1, k1, e1, gv⟩ := bent_ok (n := 36) rok ds k
      obtain ⟨u, b2, k2, e2, gu⟩ := wbent_ok (n := 36) wsok ds k1
      have e1 : evF tab 39 22 [wN ds k, mrD r] = some (.tuple [v, .bool b1], [wN ds k1]) := e1
      have e2 : evF tab 39 23 [wN ds k1, strT (aheadN r)] = some (.tuple [u, .bool b2], [wN ds k2]) := e2
      have gv : evF tab 39 3 [v] = some (.bool b1, []) := gv 37
      have gu : evF tab 39 2 [u] = some (.bool b2, []) := gu 37
      refine run_nx (ρ' := lS s ds k1 x2 (.sh (mrD r)) (.sh (natK line)) x5 x6 x7 x8 x9 x10 (sl o11) (.sh (strT (aheadN r))) (.sh (strT (behindN r))) x14 x15 (sl o16) (sl o17) (.sh v) (.sh (.bool b1)) x20 x21) (by simp [lS, e1]) ?_
      refine run_nx (ρ' := lS s ds k2 x2 (.sh (mrD r)) (.sh (natK line)) x5 x6 x7 x8 x9 x10 (sl o11) (.sh (strT (aheadN r))) (.sh (strT (behindN r))) x14 x15 (sl o16) (sl o17) (.sh v) (.sh (.bool b1)) (.sh u) (.sh (.bool b2))) (by
        generalize strT (aheadN r) = ah at *
        simp [lS, e2]) ?_
      have ss : evF tab 39 16 [.tuple [.bool b1, .bool b2], .tuple [.bool b1, .bool b2]] = some (.bool true, []) := same_sm (n := 38) (Sm.tup (m := 0) (c := 1) (k := 2) (by
        intro x hx
        simp only [List.mem_cons, List.not_mem_nil, or_false] at hx
        rcases hx with rfl | rfl <;> exact sm_bool _) (by simp) (by omega)) (by omega) (by omega)
      exact run_ite (k := false) (ρ' := lS s ds k2 x2 (.sh (mrD r)) (.sh (natK line)) x5 x6 x7 x8 x9 x10 (sl o11) (.sh (strT (aheadN r))) (.sh (strT (behindN r))) x14 x15 (sl o16) (sl o17) (.sh v) (.sh (.bool b1)) (.sh u) (.sh (.bool b2))) (by simp [lS, gv, gu, ss]) (fun q => nomatch q) fun _ => run_nil (run_nil ⟨k2, o11, _, _, _, _, rfl⟩)
    · rintro ρ' ⟨k, o11, x18, x19, x20, x21, rfl⟩
      exact run_nil ⟨k, x2, _, _, x5, x6, x7, x8, x9, x10, o11, _, _, x14, x15, o16, o17, x18, x19, x20, x21, rfl⟩
  · rintro ρ' ⟨k, x2, x3, x4, x5, x6, x7, x8, x9, x10, o11, x12, x13, x14, x15, o16, o17, x18, x19, x20, x21, rfl⟩
    exact run_rt (r := (.bool true, lS s ds k x2 x3 x4 x5 x6 x7 x8 x9 x10 (sl o11) x12 x13 x14 x15 (sl o16) (sl o17) x18 x19 x20 x21)) (by simp) ⟨_, rfl, rfl⟩
end K24
end

namespace K24
open PySem PySem.Spec PyProof.Rows L2 DV
def topS (i : Nat) : Stmt := PySem.Challenge.pw_strokesjoined_k24_struck_words_and_words.main.body.getD i (.Pass ⟨0, 0, 0, 0⟩)
def dds : List Dd := [⟨"is_tuple_of", ["thing", "many"], ["thing", "many"], topS 1⟩, ⟨"is_word", ["thing"], ["thing"], topS 4⟩, ⟨"are_words", ["thing"], ["thing", "one"], topS 5⟩, ⟨"is_mended", ["thing"], ["thing", "one"], topS 6⟩, ⟨"text_ahead", ["mended"], ["mended", "kind", "word"], topS 7⟩, ⟨"text_behind", ["mended"], ["mended", "kind", "word"], topS 8⟩, ⟨"ink_of", ["mended", "line"], ["mended", "line", "found", "ahead", "kind", "word"], topS 9⟩, ⟨"least_ink", ["old", "new", "line"], ["old", "new", "line", "best", "i", "j", "ahead"], topS 10⟩, ⟨"least_from", ["best", "first", "second", "place", "line"], ["best", "first", "second", "place", "line", "rows", "i", "j", "ahead", "ink", "rest"], topS 11⟩, ⟨"count_mendings", ["old", "new"], ["old", "new", "table", "i", "j", "many"], topS 12⟩, ⟨"kept_most", ["old", "new"], ["old", "new", "table", "i", "j", "rows"], topS 13⟩, ⟨"let_stand", ["mended", "place"], ["mended", "place", "own", "kind", "word"], topS 14⟩, ⟨"needless", ["mended"], ["mended", "found", "k", "kinds"], topS 15⟩, ⟨"print_mended", ["mended"], ["mended", "signs", "kind", "word"], topS 16⟩, ⟨"_law_draws", ["script", "many"], ["script", "many", "draws", "mixed", "k", "cell", "rest", "turn"], topS 18⟩, ⟨"_law_next", ["w", "many"], ["w", "many"], topS 19⟩, ⟨"_law_same", ["seen", "due"], ["seen", "due", "waiting", "one", "other", "keys", "key", "k"], topS 20⟩, ⟨"_law_pick", ["w", "rows"], ["w", "rows"], topS 21⟩, ⟨"_law_text", ["w", "most"], ["w", "most", "k"], topS 22⟩, ⟨"_law_ink", ["mended", "line"], ["mended", "line", "total", "kind", "word", "k"], topS 23⟩, ⟨"_law_all", ["old", "new"], ["old", "new", "rows", "found", "longer", "row", "i", "j"], topS 24⟩, ⟨"_law_least", ["old", "new", "line"], ["old", "new", "line", "row"], topS 25⟩, ⟨"_law_bent", ["w", "mended"], ["w", "mended", "rows", "odd"], topS 26⟩, ⟨"_law_words_bent", ["w", "text"], ["w", "text", "rows", "odd"], topS 27⟩, ⟨"law", ["script"], ["script", "w", "turn", "mended", "line", "text", "vain", "new", "every", "most", "due", "k", "ahead", "behind", "place", "old", "kind", "word", "value", "right", "words", "told_so", "row"], topS 28⟩]
def gls : List (Str × D) := [("KINDS", .tuple [.str ⟨#[107, 101, 101, 112]⟩, .str ⟨#[115, 116, 114, 105, 107, 101]⟩, .str ⟨#[112, 117, 116]⟩])]
theorem ck : ckDefs tab dds gls = true := by decide +kernel
theorem all_mk {l : PySem.W.OpenLaw} {w : World} {K : PySem.W.Frag} {h : Heap} {mg : Str → Option Value} {fa : Addr} (X : K.In h) (G : h.Ns mainGlobals mg) (hfa : mg "law" = some (.ref fa))
    {f0 : Addr} {od0 an0 : Option Addr} {sl0 : Array (Option Value)} {oc0 kV0 dc0 pm0 cd0 ct0 : Value}
    (a0 : PySem.W.nsIn K mainGlobals "is_tuple_of" = some (some (.ref f0))) (l0 : K.lookup f0 = some ⟨oc0, od0, .func (PySem.W.fnOf "is_tuple_of" "is_tuple_of" (defArgs (topS 1)) (defBody (topS 1)) (defScope (topS 1)) .none kV0 dc0 pm0 an0 cd0 ct0), sl0⟩) (c0 : PySem.W.codeIn K cd0 "is_tuple_of" = true) (k0 : PySem.W.keepIn K (.ref f0) = true)
    {f1 : Addr} {od1 an1 : Option Addr} {sl1 : Array (Option Value)} {oc1 kV1 dc1 pm1 cd1 ct1 : Value}
    (a1 : PySem.W.nsIn K mainGlobals "is_word" = some (some (.ref f1))) (l1 : K.lookup f1 = some ⟨oc1, od1, .func (PySem.W.fnOf "is_word" "is_word" (defArgs (topS 4)) (defBody (topS 4)) (defScope (topS 4)) .none kV1 dc1 pm1 an1 cd1 ct1), sl1⟩) (c1 : PySem.W.codeIn K cd1 "is_word" = true) (k1 : PySem.W.keepIn K (.ref f1) = true)
    {f2 : Addr} {od2 an2 : Option Addr} {sl2 : Array (Option Value)} {oc2 kV2 dc2 pm2 cd2 ct2 : Value}
    (a2 : PySem.W.nsIn K mainGlobals "are_words" = some (some (.ref f2))) (l2 : K.lookup f2 = some ⟨oc2, od2, .func (PySem.W.fnOf "are_words" "are_words" (defArgs (topS 5)) (defBody (topS 5)) (defScope (topS 5)) .none kV2 dc2 pm2 an2 cd2 ct2), sl2⟩) (c2 : PySem.W.codeIn K cd2 "are_words" = true) (k2 : PySem.W.keepIn K (.ref f2) = true)
    {f3 : Addr} {od3 an3 : Option Addr} {sl3 : Array (Option Value)} {oc3 kV3 dc3 pm3 cd3 ct3 : Value}
    (a3 : PySem.W.nsIn K mainGlobals "is_mended" = some (some (.ref f3))) (l3 : K.lookup f3 = some ⟨oc3, od3, .func (PySem.W.fnOf "is_mended" "is_mended" (defArgs (topS 6)) (defBody (topS 6)) (defScope (topS 6)) .none kV3 dc3 pm3 an3 cd3 ct3), sl3⟩) (c3 : PySem.W.codeIn K cd3 "is_mended" = true) (k3 : PySem.W.keepIn K (.ref f3) = true)
    {f4 : Addr} {od4 an4 : Option Addr} {sl4 : Array (Option Value)} {oc4 kV4 dc4 pm4 cd4 ct4 : Value}
    (a4 : PySem.W.nsIn K mainGlobals "text_ahead" = some (some (.ref f4))) (l4 : K.lookup f4 = some ⟨oc4, od4, .func (PySem.W.fnOf "text_ahead" "text_ahead" (defArgs (topS 7)) (defBody (topS 7)) (defScope (topS 7)) .none kV4 dc4 pm4 an4 cd4 ct4), sl4⟩) (c4 : PySem.W.codeIn K cd4 "text_ahead" = true) (k4 : PySem.W.keepIn K (.ref f4) = true)
    {f5 : Addr} {od5 an5 : Option Addr} {sl5 : Array (Option Value)} {oc5 kV5 dc5 pm5 cd5 ct5 : Value}
    (a5 : PySem.W.nsIn K mainGlobals "text_behind" = some (some (.ref f5))) (l5 : K.lookup f5 = some ⟨oc5, od5, .func (PySem.W.fnOf "text_behind" "text_behind" (defArgs (topS 8)) (defBody (topS 8)) (defScope (topS 8)) .none kV5 dc5 pm5 an5 cd5 ct5), sl5⟩) (c5 : PySem.W.codeIn K cd5 "text_behind" = true) (k5 : PySem.W.keepIn K (.ref f5) = true)
    {f6 : Addr} {od6 an6 : Option Addr} {sl6 : Array (Option Value)} {oc6 kV6 dc6 pm6 cd6 ct6 : Value}
    (a6 : PySem.W.nsIn K mainGlobals "ink_of" = some (some (.ref f6))) (l6 : K.lookup f6 = some ⟨oc6, od6, .func (PySem.W.fnOf "ink_of" "ink_of" (defArgs (topS 9)) (defBody (topS 9)) (defScope (topS 9)) .none kV6 dc6 pm6 an6 cd6 ct6), sl6⟩) (c6 : PySem.W.codeIn K cd6 "ink_of" = true) (k6 : PySem.W.keepIn K (.ref f6) = true)
    {f7 : Addr} {od7 an7 : Option Addr} {sl7 : Array (Option Value)} {oc7 kV7 dc7 pm7 cd7 ct7 : Value}
    (a7 : PySem.W.nsIn K mainGlobals "least_ink" = some (some (.ref f7))) (l7 : K.lookup f7 = some ⟨oc7, od7, .func (PySem.W.fnOf "least_ink" "least_ink" (defArgs (topS 10)) (defBody (topS 10)) (defScope (topS 10)) .none kV7 dc7 pm7 an7 cd7 ct7), sl7⟩) (c7 : PySem.W.codeIn K cd7 "least_ink" = true) (k7 : PySem.W.keepIn K (.ref f7) = true)
    {f8 : Addr} {od8 an8 : Option Addr} {sl8 : Array (Option Value)} {oc8 kV8 dc8 pm8 cd8 ct8 : Value}
    (a8 : PySem.W.nsIn K mainGlobals "least_from" = some (some (.ref f8))) (l8 : K.lookup f8 = some ⟨oc8, od8, .func (PySem.W.fnOf "least_from" "least_from" (defArgs (topS 11)) (defBody (topS 11)) (defScope (topS 11)) .none kV8 dc8 pm8 an8 cd8 ct8), sl8⟩) (c8 : PySem.W.codeIn K cd8 "least_from" = true) (k8 : PySem.W.keepIn K (.ref f8) = true)
    {f9 : Addr} {od9 an9 : Option Addr} {sl9 : Array (Option Value)} {oc9 kV9 dc9 pm9 cd9 ct9 : Value}
    (a9 : PySem.W.nsIn K mainGlobals "count_mendings" = some (some (.ref f9))) (l9 : K.lookup f9 = some ⟨oc9, od9, .func (PySem.W.fnOf "count_mendings" "count_mendings" (defArgs (topS 12)) (defBody (topS 12)) (defScope (topS 12)) .none kV9 dc9 pm9 an9 cd9 ct9), sl9⟩) (c9 : PySem.W.codeIn K cd9 "count_mendings" = true) (k9 : PySem.W.keepIn K (.ref f9) = true)
    {f10 : Addr} {od10 an10 : Option Addr} {sl10 : Array (Option Value)} {oc10 kV10 dc10 pm10 cd10 ct10 : Value}
    (a10 : PySem.W.nsIn K mainGlobals "kept_most" = some (some (.ref f10))) (l10 : K.lookup f10 = some ⟨oc10, od10, .func (PySem.W.fnOf "kept_most" "kept_most" (defArgs (topS 13)) (defBody (topS 13)) (defScope (topS 13)) .none kV10 dc10 pm10 an10 cd10 ct10), sl10⟩) (c10 : PySem.W.codeIn K cd10 "kept_most" = true) (k10 : PySem.W.keepIn K (.ref f10) = true)
    {f11 : Addr} {od11 an11 : Option Addr} {sl11 : Array (Option Value)} {oc11 kV11 dc11 pm11 cd11 ct11 : Value}
    (a11 : PySem.W.nsIn K mainGlobals "let_stand" = some (some (.ref f11))) (l11 : K.lookup f11 = some ⟨oc11, od11, .func (PySem.W.fnOf "let_stand" "let_stand" (defArgs (topS 14)) (defBody (topS 14)) (defScope (topS 14)) .none kV11 dc11 pm11 an11 cd11 ct11), sl11⟩) (c11 : PySem.W.codeIn K cd11 "let_stand" = true) (k11 : PySem.W.keepIn K (.ref f11) = true)
    {f12 : Addr} {od12 an12 : Option Addr} {sl12 : Array (Option Value)} {oc12 kV12 dc12 pm12 cd12 ct12 : Value}
    (a12 : PySem.W.nsIn K mainGlobals "needless" = some (some (.ref f12))) (l12 : K.lookup f12 = some ⟨oc12, od12, .func (PySem.W.fnOf "needless" "needless" (defArgs (topS 15)) (defBody (topS 15)) (defScope (topS 15)) .none kV12 dc12 pm12 an12 cd12 ct12), sl12⟩) (c12 : PySem.W.codeIn K cd12 "needless" = true) (k12 : PySem.W.keepIn K (.ref f12) = true)
    {f13 : Addr} {od13 an13 : Option Addr} {sl13 : Array (Option Value)} {oc13 kV13 dc13 pm13 cd13 ct13 : Value}
    (a13 : PySem.W.nsIn K mainGlobals "print_mended" = some (some (.ref f13))) (l13 : K.lookup f13 = some ⟨oc13, od13, .func (PySem.W.fnOf "print_mended" "print_mended" (defArgs (topS 16)) (defBody (topS 16)) (defScope (topS 16)) .none kV13 dc13 pm13 an13 cd13 ct13), sl13⟩) (c13 : PySem.W.codeIn K cd13 "print_mended" = true) (k13 : PySem.W.keepIn K (.ref f13) = true)
    {f14 : Addr} {od14 an14 : Option Addr} {sl14 : Array (Option Value)} {oc14 kV14 dc14 pm14 cd14 ct14 : Value}
    (a14 : PySem.W.nsIn K mainGlobals "_law_draws" = some (some (.ref f14))) (l14 : K.lookup f14 = some ⟨oc14, od14, .func (PySem.W.fnOf "_law_draws" "_law_draws" (defArgs (topS 18)) (defBody (topS 18)) (defScope (topS 18)) .none kV14 dc14 pm14 an14 cd14 ct14), sl14⟩) (c14 : PySem.W.codeIn K cd14 "_law_draws" = true) (k14 : PySem.W.keepIn K (.ref f14) = true)
    {f15 : Addr} {od15 an15 : Option Addr} {sl15 : Array (Option Value)} {oc15 kV15 dc15 pm15 cd15 ct15 : Value}
    (a15 : PySem.W.nsIn K mainGlobals "_law_next" = some (some (.ref f15))) (l15 : K.lookup f15 = some ⟨oc15, od15, .func (PySem.W.fnOf "_law_next" "_law_next" (defArgs (topS 19)) (defBody (topS 19)) (defScope (topS 19)) .none kV15 dc15 pm15 an15 cd15 ct15), sl15⟩) (c15 : PySem.W.codeIn K cd15 "_law_next" = true) (k15 : PySem.W.keepIn K (.ref f15) = true)
    {f16 : Addr} {od16 an16 : Option Addr} {sl16 : Array (Option Value)} {oc16 kV16 dc16 pm16 cd16 ct16 : Value}
    (a16 : PySem.W.nsIn K mainGlobals "_law_same" = some (some (.ref f16))) (l16 : K.lookup f16 = some ⟨oc16, od16, .func (PySem.W.fnOf "_law_same" "_law_same" (defArgs (topS 20)) (defBody (topS 20)) (defScope (topS 20)) .none kV16 dc16 pm16 an16 cd16 ct16), sl16⟩) (c16 : PySem.W.codeIn K cd16 "_law_same" = true) (k16 : PySem.W.keepIn K (.ref f16) = true)
    {f17 : Addr} {od17 an17 : Option Addr} {sl17 : Array (Option Value)} {oc17 kV17 dc17 pm17 cd17 ct17 : Value}
    (a17 : PySem.W.nsIn K mainGlobals "_law_pick" = some (some (.ref f17))) (l17 : K.lookup f17 = some ⟨oc17, od17, .func (PySem.W.fnOf "_law_pick" "_law_pick" (defArgs (topS 21)) (defBody (topS 21)) (defScope (topS 21)) .none kV17 dc17 pm17 an17 cd17 ct17), sl17⟩) (c17 : PySem.W.codeIn K cd17 "_law_pick" = true) (k17 : PySem.W.keepIn K (.ref f17) = true)
    {f18 : Addr} {od18 an18 : Option Addr} {sl18 : Array (Option Value)} {oc18 kV18 dc18 pm18 cd18 ct18 : Value}
    (a18 : PySem.W.nsIn K mainGlobals "_law_text" = some (some (.ref f18))) (l18 : K.lookup f18 = some ⟨oc18, od18, .func (PySem.W.fnOf "_law_text" "_law_text" (defArgs (topS 22)) (defBody (topS 22)) (defScope (topS 22)) .none kV18 dc18 pm18 an18 cd18 ct18), sl18⟩) (c18 : PySem.W.codeIn K cd18 "_law_text" = true) (k18 : PySem.W.keepIn K (.ref f18) = true)
    {f19 : Addr} {od19 an19 : Option Addr} {sl19 : Array (Option Value)} {oc19 kV19 dc19 pm19 cd19 ct19 : Value}
    (a19 : PySem.W.nsIn K mainGlobals "_law_ink" = some (some (.ref f19))) (l19 : K.lookup f19 = some ⟨oc19, od19, .func (PySem.W.fnOf "_law_ink" "_law_ink" (defArgs (topS 23)) (defBody (topS 23)) (defScope (topS 23)) .none kV19 dc19 pm19 an19 cd19 ct19), sl19⟩) (c19 : PySem.W.codeIn K cd19 "_law_ink" = true) (k19 : PySem.W.keepIn K (.ref f19) = true)
    {f20 : Addr} {od20 an20 : Option Addr} {sl20 : Array (Option Value)} {oc20 kV20 dc20 pm20 cd20 ct20 : Value}
    (a20 : PySem.W.nsIn K mainGlobals "_law_all" = some (some (.ref f20))) (l20 : K.lookup f20 = some ⟨oc20, od20, .func (PySem.W.fnOf "_law_all" "_law_all" (defArgs (topS 24)) (defBody (topS 24)) (defScope (topS 24)) .none kV20 dc20 pm20 an20 cd20 ct20), sl20⟩) (c20 : PySem.W.codeIn K cd20 "_law_all" = true) (k20 : PySem.W.keepIn K (.ref f20) = true)
    {f21 : Addr} {od21 an21 : Option Addr} {sl21 : Array (Option Value)} {oc21 kV21 dc21 pm21 cd21 ct21 : Value}
    (a21 : PySem.W.nsIn K mainGlobals "_law_least" = some (some (.ref f21))) (l21 : K.lookup f21 = some ⟨oc21, od21, .func (PySem.W.fnOf "_law_least" "_law_least" (defArgs (topS 25)) (defBody (topS 25)) (defScope (topS 25)) .none kV21 dc21 pm21 an21 cd21 ct21), sl21⟩) (c21 : PySem.W.codeIn K cd21 "_law_least" = true) (k21 : PySem.W.keepIn K (.ref f21) = true)
    {f22 : Addr} {od22 an22 : Option Addr} {sl22 : Array (Option Value)} {oc22 kV22 dc22 pm22 cd22 ct22 : Value}
    (a22 : PySem.W.nsIn K mainGlobals "_law_bent" = some (some (.ref f22))) (l22 : K.lookup f22 = some ⟨oc22, od22, .func (PySem.W.fnOf "_law_bent" "_law_bent" (defArgs (topS 26)) (defBody (topS 26)) (defScope (topS 26)) .none kV22 dc22 pm22 an22 cd22 ct22), sl22⟩) (c22 : PySem.W.codeIn K cd22 "_law_bent" = true) (k22 : PySem.W.keepIn K (.ref f22) = true)
    {f23 : Addr} {od23 an23 : Option Addr} {sl23 : Array (Option Value)} {oc23 kV23 dc23 pm23 cd23 ct23 : Value}
    (a23 : PySem.W.nsIn K mainGlobals "_law_words_bent" = some (some (.ref f23))) (l23 : K.lookup f23 = some ⟨oc23, od23, .func (PySem.W.fnOf "_law_words_bent" "_law_words_bent" (defArgs (topS 27)) (defBody (topS 27)) (defScope (topS 27)) .none kV23 dc23 pm23 an23 cd23 ct23), sl23⟩) (c23 : PySem.W.codeIn K cd23 "_law_words_bent" = true) (k23 : PySem.W.keepIn K (.ref f23) = true)
    {f24 : Addr} {od24 an24 : Option Addr} {sl24 : Array (Option Value)} {oc24 kV24 dc24 pm24 cd24 ct24 : Value}
    (a24 : PySem.W.nsIn K mainGlobals "law" = some (some (.ref f24))) (l24 : K.lookup f24 = some ⟨oc24, od24, .func (PySem.W.fnOf "law" "law" (defArgs (topS 28)) (defBody (topS 28)) (defScope (topS 28)) .none kV24 dc24 pm24 an24 cd24 ct24), sl24⟩) (c24 : PySem.W.codeIn K cd24 "law" = true) (k24 : PySem.W.keepIn K (.ref f24) = true)
    (z0 : PySem.W.nsIn K mainGlobals "len" = some none)
    (z1 : PySem.W.nsIn K mainGlobals "abs" = some none)
    (z2 : PySem.W.nsIn K mainGlobals "int" = some none)
    (z3 : PySem.W.nsIn K mainGlobals "list" = some none)
    (z4 : PySem.W.nsIn K mainGlobals "tuple" = some none)
    (z5 : PySem.W.nsIn K mainGlobals "sorted" = some none)
    (z6 : PySem.W.nsIn K mainGlobals "sum" = some none)
    (z7 : PySem.W.nsIn K mainGlobals "max" = some none)
    (z8 : PySem.W.nsIn K mainGlobals "min" = some none)
    (z9 : PySem.W.nsIn K mainGlobals "all" = some none)
    (z10 : PySem.W.nsIn K mainGlobals "any" = some none)
    (z11 : PySem.W.nsIn K mainGlobals "isinstance" = some none)
    (z12 : PySem.W.nsIn K mainGlobals "bool" = some none)
    (z13 : PySem.W.nsIn K mainGlobals "str" = some none)
    (z14 : PySem.W.nsIn K mainGlobals "dict" = some none)
    (z15 : PySem.W.nsIn K mainGlobals "range" = some none)
    (z16 : PySem.W.nsIn K mainGlobals "set" = some none)
    (z17 : PySem.W.nsIn K mainGlobals "zip" = some none)
    (z18 : PySem.W.nsIn K mainGlobals "enumerate" = some none)
    (glb0 : glbK K "KINDS" 6 = some (.tuple [.str ⟨#[107, 101, 101, 112]⟩, .str ⟨#[115, 116, 114, 105, 107, 101]⟩, .str ⟨#[112, 117, 116]⟩]))
    (nl : noListK K = true) :
    ∃ fd : FuncData, (∀ (s : Shared) (v : Value), BindsTo s fd ⟨[v], []⟩ [("script", v)]) ∧ ∀ base : Heap, K.In base → base.Ns mainGlobals mg → FnOk l.prog w K mg base CX0 40 fa fd ["script"] (spLaw K) := by
  have e := hfa.symm.trans (PySem.W.mg_of X G a24)
  cases e
  have F0 := fun_mk (st := topS 1) l0 c0 k0
  have b0 := F0.binds (ps := ["thing", "many"]) fun _ _ _ _ _ _ us hl => match us, hl with | [_, _], _ => rfl
  have D0 : DIn K mg ⟨"is_tuple_of", ["thing", "many"], ["thing", "many"], topS 1⟩ _ _ := ⟨F0, PySem.W.mg_of X G a0, b0⟩
  have F1 := fun_mk (st := topS 4) l1 c1 k1
  have b1 := F1.binds (ps := ["thing"]) fun _ _ _ _ _ _ us hl => match us, hl with | [_], _ => rfl
  have D1 : DIn K mg ⟨"is_word", ["thing"], ["thing"], topS 4⟩ _ _ := ⟨F1, PySem.W.mg_of X G a1, b1⟩
  have F2 := fun_mk (st := topS 5) l2 c2 k2
  have b2 := F2.binds (ps := ["thing"]) fun _ _ _ _ _ _ us hl => match us, hl with | [_], _ => rfl
  have D2 : DIn K mg ⟨"are_words", ["thing"], ["thing", "one"], topS 5⟩ _ _ := ⟨F2, PySem.W.mg_of X G a2, b2⟩
  have F3 := fun_mk (st := topS 6) l3 c3 k3
  have b3 := F3.binds (ps := ["thing"]) fun _ _ _ _ _ _ us hl => match us, hl with | [_], _ => rfl
  have D3 : DIn K mg ⟨"is_mended", ["thing"], ["thing", "one"], topS 6⟩ _ _ := ⟨F3, PySem.W.mg_of X G a3, b3⟩
  have F4 := fun_mk (st := topS 7) l4 c4 k4
  have b4 := F4.binds (ps := ["mended"]) fun _ _ _ _ _ _ us hl => match us, hl with | [_], _ => rfl
  have D4 : DIn K mg ⟨"text_ahead", ["mended"], ["mended", "kind", "word"], topS 7⟩ _ _ := ⟨F4, PySem.W.mg_of X G a4, b4⟩
  have F5 := fun_mk (st := topS 8) l5 c5 k5
  have b5 := F5.binds (ps := ["mended"]) fun _ _ _ _ _ _ us hl => match us, hl with | [_], _ => rfl
  have D5 : DIn K mg ⟨"text_behind", ["mended"], ["mended", "kind", "word"], topS 8⟩ _ _ := ⟨F5, PySem.W.mg_of X G a5, b5⟩
  have F6 := fun_mk (st := topS 9) l6 c6 k6
  have b6 := F6.binds (ps := ["mended", "line"]) fun _ _ _ _ _ _ us hl => match us, hl with | [_, _], _ => rfl
  have D6 : DIn K mg ⟨"ink_of", ["mended", "line"], ["mended", "line", "found", "ahead", "kind", "word"], topS 9⟩ _ _ := ⟨F6, PySem.W.mg_of X G a6, b6⟩
  have F7 := fun_mk (st := topS 10) l7 c7 k7
  have b7 := F7.binds (ps := ["old", "new", "line"]) fun _ _ _ _ _ _ us hl => match us, hl with | [_, _, _], _ => rfl
  have D7 : DIn K mg ⟨"least_ink", ["old", "new", "line"], ["old", "new", "line", "best", "i", "j", "ahead"], topS 10⟩ _ _ := ⟨F7, PySem.W.mg_of X G a7, b7⟩
  have F8 := fun_mk (st := topS 11) l8 c8 k8
  have b8 := F8.binds (ps := ["best", "first", "second", "place", "line"]) fun _ _ _ _ _ _ us hl => match us, hl with | [_, _, _, _, _], _ => rfl
  have D8 : DIn K mg ⟨"least_from", ["best", "first", "second", "place", "line"], ["best", "first", "second", "place", "line", "rows", "i", "j", "ahead", "ink", "rest"], topS 11⟩ _ _ := ⟨F8, PySem.W.mg_of X G a8, b8⟩
  have F9 := fun_mk (st := topS 12) l9 c9 k9
  have b9 := F9.binds (ps := ["old", "new"]) fun _ _ _ _ _ _ us hl => match us, hl with | [_, _], _ => rfl
  have D9 : DIn K mg ⟨"count_mendings", ["old", "new"], ["old", "new", "table", "i", "j", "many"], topS 12⟩ _ _ := ⟨F9, PySem.W.mg_of X G a9, b9⟩
  have F10 := fun_mk (st := topS 13) l10 c10 k10
  have b10 := F10.binds (ps := ["old", "new"]) fun _ _ _ _ _ _ us hl => match us, hl with | [_, _], _ => rfl
  have D10 : DIn K mg ⟨"kept_most", ["old", "new"], ["old", "new", "table", "i", "j", "rows"], topS 13⟩ _ _ := ⟨F10, PySem.W.mg_of X G a10, b10⟩
  have F11 := fun_mk (st := topS 14) l11 c11 k11
  have b11 := F11.binds (ps := ["mended", "place"]) fun _ _ _ _ _ _ us hl => match us, hl with | [_, _], _ => rfl
  have D11 : DIn K mg ⟨"let_stand", ["mended", "place"], ["mended", "place", "own", "kind", "word"], topS 14⟩ _ _ := ⟨F11, PySem.W.mg_of X G a11, b11⟩
  have F12 := fun_mk (st := topS 15) l12 c12 k12
  have b12 := F12.binds (ps := ["mended"]) fun _ _ _ _ _ _ us hl => match us, hl with | [_], _ => rfl
  have D12 : DIn K mg ⟨"needless", ["mended"], ["mended", "found", "k", "kinds"], topS 15⟩ _ _ := ⟨F12, PySem.W.mg_of X G a12, b12⟩
  have F13 := fun_mk (st := topS 16) l13 c13 k13
  have b13 := F13.binds (ps := ["mended"]) fun _ _ _ _ _ _ us hl => match us, hl with | [_], _ => rfl
  have D13 : DIn K mg ⟨"print_mended", ["mended"], ["mended", "signs", "kind", "word"], topS 16⟩ _ _ := ⟨F13, PySem.W.mg_of X G a13, b13⟩
  have F14 := fun_mk (st := topS 18) l14 c14 k14
  have b14 := F14.binds (ps := ["script", "many"]) fun _ _ _ _ _ _ us hl => match us, hl with | [_, _], _ => rfl
  have D14 : DIn K mg ⟨"_law_draws", ["script", "many"], ["script", "many", "draws", "mixed", "k", "cell", "rest", "turn"], topS 18⟩ _ _ := ⟨F14, PySem.W.mg_of X G a14, b14⟩
  have F15 := fun_mk (st := topS 19) l15 c15 k15
  have b15 := F15.binds (ps := ["w", "many"]) fun _ _ _ _ _ _ us hl => match us, hl with | [_, _], _ => rfl
  have D15 : DIn K mg ⟨"_law_next", ["w", "many"], ["w", "many"], topS 19⟩ _ _ := ⟨F15, PySem.W.mg_of X G a15, b15⟩
  have F16 := fun_mk (st := topS 20) l16 c16 k16
  have b16 := F16.binds (ps := ["seen", "due"]) fun _ _ _ _ _ _ us hl => match us, hl with | [_, _], _ => rfl
  have D16 : DIn K mg ⟨"_law_same", ["seen", "due"], ["seen", "due", "waiting", "one", "other", "keys", "key", "k"], topS 20⟩ _ _ := ⟨F16, PySem.W.mg_of X G a16, b16⟩
  have F17 := fun_mk (st := topS 21) l17 c17 k17
  have b17 := F17.binds (ps := ["w", "rows"]) fun _ _ _ _ _ _ us hl => match us, hl with | [_, _], _ => rfl
  have D17 : DIn K mg ⟨"_law_pick", ["w", "rows"], ["w", "rows"], topS 21⟩ _ _ := ⟨F17, PySem.W.mg_of X G a17, b17⟩
  have F18 := fun_mk (st := topS 22) l18 c18 k18
  have b18 := F18.binds (ps := ["w", "most"]) fun _ _ _ _ _ _ us hl => match us, hl with | [_, _], _ => rfl
  have D18 : DIn K mg ⟨"_law_text", ["w", "most"], ["w", "most", "k"], topS 22⟩ _ _ := ⟨F18, PySem.W.mg_of X G a18, b18⟩
  have F19 := fun_mk (st := topS 23) l19 c19 k19
  have b19 := F19.binds (ps := ["mended", "line"]) fun _ _ _ _ _ _ us hl => match us, hl with | [_, _], _ => rfl
  have D19 : DIn K mg ⟨"_law_ink", ["mended", "line"], ["mended", "line", "total", "kind", "word", "k"], topS 23⟩ _ _ := ⟨F19, PySem.W.mg_of X G a19, b19⟩
  have F20 := fun_mk (st := topS 24) l20 c20 k20
  have b20 := F20.binds (ps := ["old", "new"]) fun _ _ _ _ _ _ us hl => match us, hl with | [_, _], _ => rfl
  have D20 : DIn K mg ⟨"_law_all", ["old", "new"], ["old", "new", "rows", "found", "longer", "row", "i", "j"], topS 24⟩ _ _ := ⟨F20, PySem.W.mg_of X G a20, b20⟩
  have F21 := fun_mk (st := topS 25) l21 c21 k21
  have b21 := F21.binds (ps := ["old", "new", "line"]) fun _ _ _ _ _ _ us hl => match us, hl with | [_, _, _], _ => rfl
  have D21 : DIn K mg ⟨"_law_least", ["old", "new", "line"], ["old", "new", "line", "row"], topS 25⟩ _ _ := ⟨F21, PySem.W.mg_of X G a21, b21⟩
  have F22 := fun_mk (st := topS 26) l22 c22 k22
  have b22 := F22.binds (ps := ["w", "mended"]) fun _ _ _ _ _ _ us hl => match us, hl with | [_, _], _ => rfl
  have D22 : DIn K mg ⟨"_law_bent", ["w", "mended"], ["w", "mended", "rows", "odd"], topS 26⟩ _ _ := ⟨F22, PySem.W.mg_of X G a22, b22⟩
  have F23 := fun_mk (st := topS 27) l23 c23 k23
  have b23 := F23.binds (ps := ["w", "text"]) fun _ _ _ _ _ _ us hl => match us, hl with | [_, _], _ => rfl
  have D23 : DIn K mg ⟨"_law_words_bent", ["w", "text"], ["w", "text", "rows", "odd"], topS 27⟩ _ _ := ⟨F23, PySem.W.mg_of X G a23, b23⟩
  have F24 := fun_mk (st := topS 28) l24 c24 k24
  have b24 := F24.binds (ps := ["script"]) fun _ _ _ _ _ _ us hl => match us, hl with | [_], _ => rfl
  have D24 : DIn K mg ⟨"law", ["script"], ["script", "w", "turn", "mended", "line", "text", "vain", "new", "every", "most", "due", "k", "ahead", "behind", "place", "old", "kind", "word", "value", "right", "words", "told_so", "row"], topS 28⟩ _ _ := ⟨F24, PySem.W.mg_of X G a24, b24⟩
  have hin : ∀ (f : Nat) d, dds[f]? = some d → ∃ a fd, DIn K mg d a fd := by
    intro f d hd
    match f, hd with
    | 0, hd => cases hd; exact ⟨_, _, D0⟩
    | 1, hd => cases hd; exact ⟨_, _, D1⟩
    | 2, hd => cases hd; exact ⟨_, _, D2⟩
    | 3, hd => cases hd; exact ⟨_, _, D3⟩
    | 4, hd => cases hd; exact ⟨_, _, D4⟩
    | 5, hd => cases hd; exact ⟨_, _, D5⟩
    | 6, hd => cases hd; exact ⟨_, _, D6⟩
    | 7, hd => cases hd; exact ⟨_, _, D7⟩
    | 8, hd => cases hd; exact ⟨_, _, D8⟩
    | 9, hd => cases hd; exact ⟨_, _, D9⟩
    | 10, hd => cases hd; exact ⟨_, _, D10⟩
    | 11, hd => cases hd; exact ⟨_, _, D11⟩
    | 12, hd => cases hd; exact ⟨_, _, D12⟩
    | 13, hd => cases hd; exact ⟨_, _, D13⟩
    | 14, hd => cases hd; exact ⟨_, _, D14⟩
    | 15, hd => cases hd; exact ⟨_, _, D15⟩
    | 16, hd => cases hd; exact ⟨_, _, D16⟩
    | 17, hd => cases hd; exact ⟨_, _, D17⟩
    | 18, hd => cases hd; exact ⟨_, _, D18⟩
    | 19, hd => cases hd; exact ⟨_, _, D19⟩
    | 20, hd => cases hd; exact ⟨_, _, D20⟩
    | 21, hd => cases hd; exact ⟨_, _, D21⟩
    | 22, hd => cases hd; exact ⟨_, _, D22⟩
    | 23, hd => cases hd; exact ⟨_, _, D23⟩
    | 24, hd => cases hd; exact ⟨_, _, D24⟩
    | f + 25, hd => cases hd
  have blt : ∀ x ∈ bltNames, mg x = none := by
    intro x hx
    simp only [bltNames, List.mem_cons, List.mem_nil_iff, or_false] at hx
    rcases hx with rfl | rfl | rfl | rfl | rfl | rfl | rfl | rfl | rfl | rfl | rfl | rfl | rfl | rfl | rfl | rfl | rfl | rfl | rfl
    · exact PySem.W.mg_none_of X G z0
    · exact PySem.W.mg_none_of X G z1
    · exact PySem.W.mg_none_of X G z2
    · exact PySem.W.mg_none_of X G z3
    · exact PySem.W.mg_none_of X G z4
    · exact PySem.W.mg_none_of X G z5
    · exact PySem.W.mg_none_of X G z6
    · exact PySem.W.mg_none_of X G z7
    · exact PySem.W.mg_none_of X G z8
    · exact PySem.W.mg_none_of X G z9
    · exact PySem.W.mg_none_of X G z10
    · exact PySem.W.mg_none_of X G z11
    · exact PySem.W.mg_none_of X G z12
    · exact PySem.W.mg_none_of X G z13
    · exact PySem.W.mg_none_of X G z14
    · exact PySem.W.mg_none_of X G z15
    · exact PySem.W.mg_none_of X G z16
    · exact PySem.W.mg_none_of X G z17
    · exact PySem.W.mg_none_of X G z18
  have hgl : ∀ p ∈ gls, ∃ v u, mg p.1 = some u ∧ RelV v u ∧ ∀ P H, Den K w P H v p.2 := by
    intro p hp
    simp only [gls, List.mem_cons, List.not_mem_nil, or_false] at hp
    rcases hp with rfl
    · exact glb_of X G glb0
  refine ⟨PySem.W.fnOf "law" "law" (defArgs (topS 28)) (defBody (topS 28)) (defScope (topS 28)) .none kV24 dc24 pm24 an24 cd24 ct24, fun s v => .of_eq rfl, fun base _ _ => ?_⟩
  exact (table_ok (P := l.prog) (w := w) (base := base) ck hin blt hgl 40 24 _ _ rfl rfl _ _ D24).imp (law_sp rfl nl ev)
end K24
open PySem PySem.W PyProof.Rows
set_option maxHeartbeats 0 in
theorem PySem.Challenge.cw_strokesjoined_k24_struck_words_and_words_holds : PySem.Challenge.rw_strokesjoined_k24_struck_words_and_words.Holds := by
  w_on; o_law; k_head; (case hw => w_witness2)
  k_fill
  refine L2.walk_of (l := PySem.Challenge.rw_strokesjoined_k24_struck_words_and_words) (n := 63) (k := 40) (x := "script") (CX := fun _ => L2.CX0) (sp := fun w => DV.spLaw _) rfl (by decide) rfl ⟨rfl, by decide, by decide⟩ (fun w h Y => PySem.W.kIn_of Y) ?F (fun _ _ a ns hl _ hS => ⟨a, ns, rfl, hS, hl, fun _ => rfl⟩) (fun _ _ _ _ _ h => h)
  case F =>
    intro w mg fa h KX G hmg
    refine' K24.all_mk KX G hmg ?a0 ?l0 ?c0 ?k0 ?a1 ?l1 ?c1 ?k1 ?a2 ?l2 ?c2 ?k2 ?a3 ?l3 ?c3 ?k3 ?a4 ?l4 ?c4 ?k4 ?a5 ?l5 ?c5 ?k5 ?a6 ?l6 ?c6 ?k6 ?a7 ?l7 ?c7 ?k7 ?a8 ?l8 ?c8 ?k8 ?a9 ?l9 ?c9 ?k9 ?a10 ?l10 ?c10 ?k10 ?a11 ?l11 ?c11 ?k11 ?a12 ?l12 ?c12 ?k12 ?a13 ?l13 ?c13 ?k13 ?a14 ?l14 ?c14 ?k14 ?a15 ?l15 ?c15 ?k15 ?a16 ?l16 ?c16 ?k16 ?a17 ?l17 ?c17 ?k17 ?a18 ?l18 ?c18 ?k18 ?a19 ?l19 ?c19 ?k19 ?a20 ?l20 ?c20 ?k20 ?a21 ?l21 ?c21 ?k21 ?a22 ?l22 ?c22 ?k22 ?a23 ?l23 ?c23 ?k23 ?a24 ?l24 ?c24 ?k24 ?z0 ?z1 ?z2 ?z3 ?z4 ?z5 ?z6 ?z7 ?z8 ?z9 ?z10 ?z11 ?z12 ?z13 ?z14 ?z15 ?z16 ?z17 ?z18 ?glb0 ?nl
    (case a0 => k_is); (case l0 => k_is); (case c0 => k_is); (case k0 => k_is); (case a1 => k_is); (case l1 => k_is); (case c1 => k_is); (case k1 => k_is); (case a2 => k_is); (case l2 => k_is); (case c2 => k_is); (case k2 => k_is); (case a3 => k_is); (case l3 => k_is); (case c3 => k_is); (case k3 => k_is); (case a4 => k_is); (case l4 => k_is); (case c4 => k_is); (case k4 => k_is); (case a5 => k_is); (case l5 => k_is); (case c5 => k_is); (case k5 => k_is); (case a6 => k_is); (case l6 => k_is); (case c6 => k_is); (case k6 => k_is); (case a7 => k_is); (case l7 => k_is); (case c7 => k_is); (case k7 => k_is); (case a8 => k_is); (case l8 => k_is); (case c8 => k_is); (case k8 => k_is); (case a9 => k_is); (case l9 => k_is); (case c9 => k_is); (case k9 => k_is); (case a10 => k_is); (case l10 => k_is); (case c10 => k_is); (case k10 => k_is); (case a11 => k_is); (case l11 => k_is); (case c11 => k_is); (case k11 => k_is); (case a12 => k_is); (case l12 => k_is); (case c12 => k_is); (case k12 => k_is); (case a13 => k_is); (case l13 => k_is); (case c13 => k_is); (case k13 => k_is); (case a14 => k_is); (case l14 => k_is); (case c14 => k_is); (case k14 => k_is); (case a15 => k_is); (case l15 => k_is); (case c15 => k_is); (case k15 => k_is); (case a16 => k_is); (case l16 => k_is); (case c16 => k_is); (case k16 => k_is); (case a17 => k_is); (case l17 => k_is); (case c17 => k_is); (case k17 => k_is); (case a18 => k_is); (case l18 => k_is); (case c18 => k_is); (case k18 => k_is); (case a19 => k_is); (case l19 => k_is); (case c19 => k_is); (case k19 => k_is); (case a20 => k_is); (case l20 => k_is); (case c20 => k_is); (case k20 => k_is); (case a21 => k_is); (case l21 => k_is); (case c21 => k_is); (case k21 => k_is); (case a22 => k_is); (case l22 => k_is); (case c22 => k_is); (case k22 => k_is); (case a23 => k_is); (case l23 => k_is); (case c23 => k_is); (case k23 => k_is); (case a24 => k_is); (case l24 => k_is); (case c24 => k_is); (case k24 => k_is); (case z0 => k_is); (case z1 => k_is); (case z2 => k_is); (case z3 => k_is); (case z4 => k_is); (case z5 => k_is); (case z6 => k_is); (case z7 => k_is); (case z8 => k_is); (case z9 => k_is); (case z10 => k_is); (case z11 => k_is); (case z12 => k_is); (case z13 => k_is); (case z14 => k_is); (case z15 => k_is); (case z16 => k_is); (case z17 => k_is); (case z18 => k_is)
    (case glb0 => first | rfl | kernel_rfl)
    (case nl => first | rfl | decide +kernel)
