import PyProof.Rows.All
import Wide.All
import OpenK.AllK
import Wide.FinOn
import HandS.ForMost
import KE.SortData
import HandS.ForExc
import HandS.Iter
import HandS.CallSlots
import HandS.ExcInit
import KE.KDictKeyed
import KE.KDictCopyH
import HandS.Wide
import HandS.Text
import HandS.Deep
import HandS.TupAny
import KE.DataCmp
import KE.GoesNew
import HandS.NoneIn
import HandS.Comp
import HandS.IsInst
import HandS.Steps
import HandS.Style
import HandS.Codes
import HandS.Words
import HandS.HeadEnd
import HandS.TupSets
import KE.KeyNested
import HandS.Strs
import HandS.SetFor
import PyProof.DictStraight
import HandS.ForDict
import PySem.Challenge.RW_crossparity_k03_pairs_listed
set_option Elab.async false
set_option linter.all false
section
set_option maxRecDepth 100000
/-! Mi: a small language with values in place of objects; its evaluator. -/
namespace Mi
open PySem

/-- values -/
inductive D where
  | non | bl (b : Bool) | int (i : Int) | str (x : Str)
  | tup (xs : List D) | lst (xs : List D) | dct (ks vs : List D)
  | ins (c : Str) (ns : List Str) (vs : List D) | loc (n : Nat)

mutual
def D.beq : D → D → Bool
  | .non, .non => true
  | .bl a, .bl b => a == b
  | .int a, .int b => a == b
  | .str a, .str b => decide (a = b)
  | .tup a, .tup b => D.beqs a b
  | .lst a, .lst b => D.beqs a b
  | .dct a a', .dct b b' => D.beqs a b && D.beqs a' b'
  | .ins c n v, .ins c' n' v' => decide (c = c') && decide (n = n') && D.beqs v v'
  | .loc a, .loc b => a == b
  | _, _ => false
def D.beqs : List D → List D → Bool
  | [], [] => true
  | a :: as, b :: bs => D.beq a b && D.beqs as bs
  | _, _ => false
end
mutual
theorem D.beq_self : ∀ a : D, D.beq a a = true
  | .non => by simp [D.beq]
  | .bl a => by simp [D.beq]
  | .int a => by simp [D.beq]
  | .str a => by simp [D.beq]
  | .tup a => by simp [D.beq, D.beqs_self a]
  | .lst a => by simp [D.beq, D.beqs_self a]
  | .dct a b => by simp [D.beq, D.beqs_self a, D.beqs_self b]
  | .ins c n v => by simp [D.beq, D.beqs_self v]
  | .loc a => by simp [D.beq]
theorem D.beqs_self : ∀ a : List D, D.beqs a a = true
  | [] => by simp [D.beqs]
  | a :: as => by simp [D.beqs, D.beq_self a, D.beqs_self as]
end
mutual
theorem D.eq_of_beq : ∀ a b : D, D.beq a b = true → a = b
  | .non, b, h => by cases b <;> simp_all [D.beq]
  | .bl a, b, h => by cases b <;> simp_all [D.beq]
  | .int a, b, h => by cases b <;> simp_all [D.beq]
  | .str a, b, h => by cases b <;> simp_all [D.beq]
  | .tup a, b, h => by
    cases b <;> first | (simp [D.beq] at h; done) | (simp only [D.beq] at h; rw [D.eqs_of_beqs _ _ h])
  | .lst a, b, h => by
    cases b <;> first | (simp [D.beq] at h; done) | (simp only [D.beq] at h; rw [D.eqs_of_beqs _ _ h])
  | .dct a a', b, h => by
    cases b <;> first | (simp [D.beq] at h; done) | (simp only [D.beq, Bool.and_eq_true] at h; rw [D.eqs_of_beqs _ _ h.1, D.eqs_of_beqs _ _ h.2])
  | .ins c n v, b, h => by
    cases b <;> first | (simp [D.beq] at h; done) | (simp only [D.beq, Bool.and_eq_true, decide_eq_true_eq] at h; rw [h.1.1, h.1.2, D.eqs_of_beqs _ _ h.2])
  | .loc a, b, h => by cases b <;> simp_all [D.beq]
theorem D.eqs_of_beqs : ∀ a b : List D, D.beqs a b = true → a = b
  | [], [], _ => rfl
  | a :: as, b :: bs, h => by
    simp only [D.beqs, Bool.and_eq_true] at h
    rw [D.eq_of_beq _ _ h.1, D.eqs_of_beqs _ _ h.2]
  | [], _ :: _, h => by simp [D.beqs] at h
  | _ :: _, [], h => by simp [D.beqs] at h
end
instance : DecidableEq D := fun a b => if h : D.beq a b = true then .isTrue (D.eq_of_beq a b h) else .isFalse fun e => h (e ▸ D.beq_self a)
instance : Inhabited D := ⟨.non⟩

mutual
/-- as plain data -/
def py : D → PyData
  | .non => .none
  | .bl b => .bool b
  | .int i => .int i
  | .str x => .str x
  | .tup xs => .tuple (pys xs)
  | .lst xs => .list (pys xs)
  | .dct _ _ => .dict []
  | .ins _ _ _ => .dict []
  | .loc _ => .dict []
def pys : List D → List PyData
  | [] => []
  | x :: xs => py x :: pys xs
end
mutual
/-- it is plain data -/
def isPy : D → Bool
  | .non => true
  | .bl _ => true
  | .int _ => true
  | .str _ => true
  | .tup xs => isPys xs
  | .lst xs => isPys xs
  | .dct _ _ => false
  | .ins _ _ _ => false
  | .loc _ => false
def isPys : List D → Bool
  | [] => true
  | x :: xs => isPy x && isPys xs
end

/-- operations -/
inductive Bi where
  | add | sub | mul | mod | fdiv | pow | shl | shr | band | bxor | neg
  | eq | ne | lt | le | gt | ge | isin | notin | is | isnot
  | idx | rev
  | len | sort | sortr | sset | sxor | lset | all | any | sum | min1 | max1 | min2 | max2 | abs | int | list | tuple | dict | dictz | dictzr | listzip | listrng
  | values | ditems | get | index | count | bit_length | repr_
  deriving DecidableEq

inductive T where
  | s (i : Nat) | t (ts : List T)

mutual
inductive E where
  | k (d : D) | gl (x : Str) (d : D) | v (i : Nat)
  | bi (f : Bi) (as : List A)
  | and (es : List E) | or (es : List E) | not (e : E) | ife (c a b : E)
  | tup (es : List E) | lst (es : List E) | dct (kvs : List E)
  | chain (f g : Bi) (a b c : E)
  | att (a : A) (f : Str)
  | isi (tu : Bool) (a : A) (ts : List Str)
  | call (f : Nat) (es : List E) | mk (c : Str) (es : List E) | meth (o : E) (f : Nat) (es : List E)
  | lc (ow : List Nat) (e : E) (t : T) (i : I) (cs : List E)
  | lc2 (ow : List Nat) (e : E) (t1 : T) (i1 : I) (cs1 : List E) (t2 : T) (i2 : I) (cs2 : List E)
  | dc (ow : List Nat) (k v : E) (t : T) (i : I) (cs : List E)
  | s00 (a : A) | s10 (a : A) (e : E) | s01 (a : A) (e : E) | s11 (a : A) (e f : E)
  | pop (i : Nat) | popA (i : Nat) (e : E)
inductive A where
  | e (e : E) | b (i : Nat)
inductive I where
  | seq (a : E) | enum (a : E) | zip (a b : E) | rng (e : E) | rng2 (a b : E) | items (a : E) | vals (a : E)
end

inductive S where
  | pass | ex (e : E) | ret (e : E) | retN | retO (i : Nat) | retF (e : E)
  | set (i : Nat) (e : E) | setO (i : Nat) (e : E) | setT (t : T) (e : E) | par (i j : Nat) (a b : E) | box (i : Nat) (e : E)
  | app (i : Nat) (e : E) | ext (i : Nat) (e : E) | extB (i j : Nat) | revs (i : Nat) | clr (i : Nat) | setK (i : Nat) (k e : E) | setL (i : Nat) (k e : E) | upd (i : Nat) (a : A)
  | aug (i : Nat) (f : Bi) (e : E) | fld (i : Nat) (f : Str) (e : E)
  | ite (c : E) (a b : List S) | for (t : T) (i : I) (b : List S) | while (c : E) (b : List S)
  | raise (c : Str) (es : List E)
  | fr (is : List Nat) (s : S)

inductive Sl where
  | un | v (d : D) | o (d : D)
  deriving DecidableEq

/-- a result: a value, the frame's slots, the store -/
inductive O (α : Type) where
  | ok (a : α) (r : List Sl) (m : List D)
  | ex (x : D) (r : List Sl) (m : List D)
  | bad
/-- a call's result -/
inductive CO where
  | ok (d : D) (m : List D) | ex (x : D) (m : List D) | bad

def O.bind {α β : Type} (o : O α) (f : α → List Sl → List D → O β) : O β :=
  match o with
  | .ok a r m => f a r m
  | .ex x r m => .ex x r m
  | .bad => .bad
def lift {α : Type} (o : Option α) (r : List Sl) (m : List D) : O α := match o with
  | some a => .ok a r m
  | none => .bad

/-! ### operations on values -/
def deref (m : List D) : D → Option D
  | .loc n => m[n]?
  | d => some d
/-- the items of a list, a tuple, a location that holds a list -/
def seqOf (m : List D) : D → Option (List D)
  | .tup xs => some xs
  | .lst xs => some xs
  | .loc n => match m[n]? with
    | some (.lst xs) => some xs
    | _ => none
  | _ => none
/-- the items of a list, a location that holds one -/
def lstOf (m : List D) : D → Option (List D)
  | .lst xs => some xs
  | .loc n => match m[n]? with
    | some (.lst xs) => some xs
    | _ => none
  | _ => none
def eqD (a b : D) : Option Bool := if isPy a && isPy b && SeqAt.shaped (py a) && SeqAt.shaped (py b) then some (PyData.eqv (py a) (py b)) else none
/-- the items can be sorted -/
def sortable (xs : List D) : Bool :=
  isPys xs && xs.all (fun a => xs.all fun b => W.alike (py a) (py b)) && decide (xs.length ≤ 1000000) &&
  (xs.all (fun a => match a with | .tup (_ :: _) => true | _ => false) || xs.all fun a => match a with | .tup _ => false | .non => false | _ => true) && xs.all fun a => SeqAt.shaped (py a)
def leD (a b : D) : Bool := W.dataLe false py a b
def sortD (xs : List D) : Option (List D) := if sortable xs then some (xs.mergeSort leD) else none
def sortrD (xs : List D) : Option (List D) := if sortable xs then some (xs.mergeSort (W.dataLe true py)) else none
/-- each value once, its first place -/
def dedup : List D → List D
  | [] => []
  | x :: xs => x :: (dedup xs).filter fun y => !decide (y = x)
mutual
/-- what may be in a set, a key of a dict: texts, ints, tuples of such -/
def hashable : D → Bool
  | .str _ => true
  | .int _ => true
  | .tup xs => hashables xs
  | _ => false
def hashables : List D → Bool
  | [] => true
  | x :: xs => hashable x && hashables xs
end
mutual
def kdep : D → Nat
  | .tup xs => kdeps xs + 1
  | _ => 0
def kdeps : List D → Nat
  | [] => 0
  | x :: xs => max (kdep x) (kdeps xs)
end
def isStr : D → Bool | .str _ => true | _ => false
def isInt : D → Bool | .int _ => true | _ => false
def isTup : D → Bool | .tup _ => true | _ => false
/-- items of one set: all texts, all ints or all tuples (of depth at most 8) -/
def setable (xs : List D) : Bool := (xs.all isStr || xs.all isInt || xs.all isTup) && hashables xs && decide (xs.length ≤ 100000)
/-- items of a set: all texts or all tuples, at most 300 -/
def setOk (xs : List D) : Bool := (xs.all isStr || xs.all isTup) && hashables xs && decide (kdeps xs ≤ 8) && decide (xs.length ≤ 300)
def clip (n : Nat) (i : Int) : Nat := if i < 0 then (i + n).toNat else min i.toNat n
def slo (n : Nat) : Option Int → Nat
  | some i => clip n i
  | none => 0
def shi (n : Nat) : Option Int → Nat
  | some i => clip n i
  | none => n
def slice (xs : List D) (lo hi : Option Int) : List D := (xs.take (shi xs.length hi)).drop (slo xs.length lo)
def atI (xs : List D) (i : Int) : Option D := if 0 ≤ i then xs[i.toNat]? else if 0 ≤ i + xs.length then xs[(i + xs.length).toNat]? else none
def keyAt : List D → List D → D → Option D
  | k :: ks, v :: vs, x => if k = x then some v else keyAt ks vs x
  | _, _, _ => none
def bits (i : Int) : Nat := if i = 0 then 0 else i.natAbs.log2 + 1
def mulOk (i j : Int) : Bool := decide (i.natAbs < 2 ^ 64) || decide (j.natAbs < 2 ^ 64) || decide (bits i + bits j < 1000000)
def cmpI (f : Bi) (i j : Int) : Option Bool := match f with
  | .lt => some (decide (i < j)) | .le => some (decide (i ≤ j)) | .gt => some (decide (j < i)) | .ge => some (decide (j ≤ i)) | _ => none
def small : D → Bool
  | .int _ => true | .str _ => true | .non => true | .bl _ => true | _ => false
def isNon : D → Bool
  | .non => true
  | _ => false
def ltD (a b : D) : Option Bool :=
  match a, b with
  | .int i, .int j => some (decide (i < j))
  | _, _ => if isPy a && isPy b && W.alike (py a) (py b) && SeqAt.shaped (py a) && SeqAt.shaped (py b) && !isNon a then some (W.dataLt (py a) (py b)) else none
def allB : List D → Option Bool
  | [] => some true
  | .bl b :: xs => (allB xs).map (b && ·)
  | _ => none
def anyB : List D → Option Bool
  | [] => some false
  | .bl b :: xs => (anyB xs).map (b || ·)
  | _ => none
def sumI : List D → Option Int
  | [] => some 0
  | .int i :: xs => (sumI xs).map (i + ·)
  | _ => none
def minD : D → List D → Option D
  | x, [] => some x
  | x, y :: ys => match ltD y x with
    | some true => minD y ys
    | some false => minD x ys
    | none => none
def maxD : D → List D → Option D
  | x, [] => some x
  | x, y :: ys => match ltD x y with
    | some true => maxD y ys
    | some false => maxD x ys
    | none => none
def zipD (xs ys : List D) : List D := (xs.zip ys).map fun p => .tup [p.1, p.2]
def enumD (n : Nat) : List D → List D
  | [] => []
  | x :: xs => .tup [.int n, x] :: enumD (n + 1) xs
def rngD (lo hi : Int) : List D := (List.range (hi - lo).toNat).map fun (k : Nat) => .int (lo + k)
def small62 (i : Int) : Bool := decide (-(2 ^ 62) ≤ i) && decide (i < 2 ^ 62)
/-- d[k] = v -/
def putD : List D → List D → D → D → List D × List D
  | k :: ks, v :: vs, x, y => if k = x then (k :: ks, y :: vs) else let p := putD ks vs x y; (k :: p.1, v :: p.2)
  | _, _, x, y => ([x], [y])
def putAll (ks vs : List D) : List D → List D → List D × List D
  | x :: xs, y :: ys => let p := putD ks vs x y; putAll p.1 p.2 xs ys
  | _, _ => (ks, vs)
def dropD : List D → List D → D → List D × List D
  | k :: ks, v :: vs, x => if k = x then (ks, vs) else let p := dropD ks vs x; (k :: p.1, v :: p.2)
  | _, _, _ => ([], [])
def pairsOf : List D → Option (List D × List D)
  | [] => some ([], [])
  | .tup [a, b] :: r => (pairsOf r).map fun p => (a :: p.1, b :: p.2)
  | _ => none
/-- keys and values in turn -/
def altOf : List D → Option (List D × List D)
  | [] => some ([], [])
  | a :: b :: r => (altOf r).map fun p => (a :: p.1, b :: p.2)
  | _ => none
def mkDict (ks vs : List D) : Option D := if setable ks then let p := putAll [] [] ks vs; some (.dct p.1 p.2) else none
def letter (x : Str) : Bool := x.length == 1
def strHas (z c : Str) : Bool := decide (c.cps.getD 0 0 ∈ z.cps.toList)
def charsOf (x : Str) : List D := x.cps.toList.map fun c => .str ⟨#[c]⟩
def indexOf? (x : D) : List D → Option Nat
  | [] => none
  | y :: ys => match eqD y x with
    | some true => some 0
    | some false => (indexOf? x ys).map (· + 1)
    | none => none
def hasD (x : D) (ys : List D) : Option Bool := if isPy x && isPys ys && SeqAt.shaped (py x) && SeqAt.shaped (.list (pys ys)) && SeqAt.shaped (.tuple (pys ys)) then some ((pys ys).any fun y => PyData.eqv y (py x)) else none
def b_add (m : List D) : List D → Option D
  | [.int i, .int j] => some (.int (i + j))
  | [.str x, .str y] => if x.length + y.length ≤ 1000 then some (.str (x ++ y)) else none
  | [.tup x, .tup y] => if x.length + y.length ≤ 1000 then some (.tup (x ++ y)) else none
  | [x, y] => match x, y with
    | .tup _, _ => none
    | _, .tup _ => none
    | _, _ => match seqOf m x, seqOf m y with
      | some xs, some ys => if xs.length + ys.length ≤ 1000000 then some (.lst (xs ++ ys)) else none
      | _, _ => none
  | _ => none
def b_sub (m : List D) : List D → Option D
  | [.int i, .int j] => some (.int (i - j))
  | _ => none
def b_mul (m : List D) : List D → Option D
  | [.int i, .int j] => if mulOk i j then some (.int (i * j)) else none
  | _ => none
def b_mod (m : List D) : List D → Option D
  | [.int i, .int j] => if j ≠ 0 then some (.int (i.fmod j)) else none
  | _ => none
def b_fdiv (m : List D) : List D → Option D
  | [.int i, .int j] => if j ≠ 0 ∧ bits j ≤ 9000 then some (.int (i.fdiv j)) else none
  | _ => none
def b_pow (m : List D) : List D → Option D
  | [.int i, .int j] => if 0 ≤ j ∧ j ≤ 1000 ∧ i.natAbs < 2 ^ 64 then some (.int (i ^ j.toNat)) else none
  | _ => none
def b_shl (m : List D) : List D → Option D
  | [.int i, .int j] => if 0 ≤ j ∧ j ≤ 100000 ∧ i.natAbs < 2 ^ 64 then some (.int (i * 2 ^ j.toNat)) else none
  | _ => none
def b_shr (m : List D) : List D → Option D
  | [.int i, .int j] => if 0 ≤ j then some (.int (i / 2 ^ j.toNat)) else none
  | _ => none
def b_band (m : List D) : List D → Option D
  | [.int i, .int j] => some (.int (Builtin.bitAnd i j))
  | _ => none
def b_bxor (m : List D) : List D → Option D
  | [.int i, .int j] => some (.int (Builtin.bitXor i j))
  | _ => none
def b_neg (m : List D) : List D → Option D
  | [.int i] => some (.int (-i))
  | _ => none
def b_eq (m : List D) : List D → Option D
  | [x, y] => do let x ← deref m x; let y ← deref m y; (eqD x y).map .bl
  | _ => none
def b_ne (m : List D) : List D → Option D
  | [x, y] => do let x ← deref m x; let y ← deref m y; (eqD x y).map fun b => .bl (!b)
  | _ => none
def b_lt (m : List D) : List D → Option D
  | [x, y] => (ltD x y).map .bl
  | _ => none
def b_le (m : List D) : List D → Option D
  | [.int i, .int j] => some (.bl (decide (i ≤ j)))
  | _ => none
def b_gt (m : List D) : List D → Option D
  | [x, y] => (ltD y x).map .bl
  | _ => none
def b_ge (m : List D) : List D → Option D
  | [.int i, .int j] => some (.bl (decide (j ≤ i)))
  | _ => none
def b_isin (m : List D) : List D → Option D
  | [.str x, .str y] => if letter x then some (.bl (strHas y x)) else none
  | [x, y] => do let ys ← seqOf m y; (hasD x ys).map .bl
  | _ => none
def b_notin (m : List D) : List D → Option D
  | [x, y] => do let ys ← seqOf m y; (hasD x ys).map fun b => .bl (!b)
  | _ => none
def b_is (m : List D) : List D → Option D
  | [x, .non] => some (.bl (match x with | .non => true | _ => false))
  | _ => none
def b_isnot (m : List D) : List D → Option D
  | [x, .non] => some (.bl (match x with | .non => false | _ => true))
  | _ => none
def b_idx (m : List D) : List D → Option D
  | [.str x, .int i] => if decide (x.length ≤ 1000) && small62 i then atI (charsOf x) i else none
  | [x, .int i] => do let xs ← seqOf m x; if small62 i then atI xs i else none
  | _ => none
/-- of the value's kind -/
def sliceD (d : D) (xs : List D) : D := match d with
  | .tup _ => .tup xs
  | _ => .lst xs
def sliceOf (m : List D) (lo hi : Option Int) (d : D) : Option D := (seqOf m d).map fun xs => sliceD d (slice xs lo hi)
def b_rev (m : List D) : List D → Option D
  | [x] => do let xs ← lstOf m x; some (.lst xs.reverse)
  | _ => none
def b_len (m : List D) : List D → Option D
  | [.str x] => if x.length ≤ 1000 then some (.int x.length) else none
  | [x] => do let xs ← seqOf m x; some (.int xs.length)
  | _ => none
def b_sort (m : List D) : List D → Option D
  | [x] => do let xs ← lstOf m x; (sortD xs).map .lst
  | _ => none
def b_sortr (m : List D) : List D → Option D
  | [x] => do let xs ← lstOf m x; (sortrD xs).map .lst
  | _ => none
def b_sset (m : List D) : List D → Option D
  | [x] => do let xs ← seqOf m x; if setOk xs then (sortD (dedup xs)).map .lst else none
  | _ => none
def b_sxor (m : List D) : List D → Option D
  | [x, y] => do let xs ← seqOf m x; let ys ← seqOf m y; if setOk xs && setOk ys then (sortD ((dedup xs).filter (fun z => !decide (z ∈ ys)) ++ (dedup ys).filter (fun z => !decide (z ∈ xs)))).map .lst else none
  | _ => none
def b_lset (m : List D) : List D → Option D
  | [x] => do let xs ← seqOf m x; if setOk xs then some (.int (dedup xs).length) else none
  | _ => none
def b_all (m : List D) : List D → Option D
  | [x] => do let xs ← lstOf m x; (allB xs).map .bl
  | _ => none
def b_any (m : List D) : List D → Option D
  | [x] => do let xs ← lstOf m x; (anyB xs).map .bl
  | _ => none
def b_sum (m : List D) : List D → Option D
  | [x] => do let xs ← lstOf m x; (sumI xs).map .int
  | _ => none
def b_min1 (m : List D) : List D → Option D
  | [x] => do let xs ← seqOf m x; match xs with | y :: ys => minD y ys | [] => none
  | _ => none
def b_max1 (m : List D) : List D → Option D
  | [x] => do let xs ← seqOf m x; match xs with | y :: ys => maxD y ys | [] => none
  | _ => none
def b_min2 (m : List D) : List D → Option D
  | [.int i, .int j] => some (.int (if j < i then j else i))
  | _ => none
def b_max2 (m : List D) : List D → Option D
  | [.int i, .int j] => some (.int (if j > i then j else i))
  | _ => none
def b_abs (m : List D) : List D → Option D
  | [.int i] => some (.int (if i < 0 then -i else i))
  | _ => none
def b_int (m : List D) : List D → Option D
  | [.int i] => some (.int i)
  | [.bl b] => some (.int (if b then 1 else 0))
  | _ => none
def b_list (m : List D) : List D → Option D
  | [x] => do let xs ← seqOf m x; some (.lst xs)
  | _ => none
def b_tuple (m : List D) : List D → Option D
  | [x] => do let xs ← seqOf m x; some (.tup xs)
  | _ => none
def b_dict (m : List D) : List D → Option D
  | [.dct ks vs] => some (.dct ks vs)
  | [x] => do let xs ← seqOf m x; let p ← pairsOf xs; mkDict p.1 p.2
  | _ => none
def b_dictz (m : List D) : List D → Option D
  | [x, y] => do let xs ← seqOf m x; let ys ← seqOf m y; mkDict (xs.take ys.length) (ys.take xs.length)
  | _ => none
def b_dictzr (m : List D) : List D → Option D
  | [x, .int n] => do let xs ← seqOf m x; let ys := rngD 0 n; mkDict (xs.take ys.length) (ys.take xs.length)
  | _ => none
def b_listzip (m : List D) : List D → Option D
  | [x, y] => do let xs ← seqOf m x; let ys ← seqOf m y; some (.lst (zipD xs ys))
  | _ => none
def b_listrng (m : List D) : List D → Option D
  | [.int i, .int j] => if small62 i && small62 j then some (.lst (rngD i j)) else none
  | _ => none
def b_values (m : List D) : List D → Option D
  | [.dct _ vs] => some (.lst vs)
  | _ => none
def b_ditems (m : List D) : List D → Option D
  | [.dct ks vs] => some (.lst (zipD ks vs))
  | _ => none
def b_get (m : List D) : List D → Option D
  | [.dct ks vs, x, y] => if setable (x :: ks) then some ((keyAt ks vs x).getD y) else none
  | _ => none
def b_index (m : List D) : List D → Option D
  | [x, y] => do let xs ← seqOf m x; (indexOf? y xs).map fun n => .int n
  | _ => none
def b_bit_length (m : List D) : List D → Option D
  | [.int i] => some (.int (bits i))
  | _ => none
def biEval (m : List D) (f : Bi) (ds : List D) : Option D :=
  match f with
  | .add => b_add m ds
  | .sub => b_sub m ds
  | .mul => b_mul m ds
  | .mod => b_mod m ds
  | .fdiv => b_fdiv m ds
  | .pow => b_pow m ds
  | .shl => b_shl m ds
  | .shr => b_shr m ds
  | .band => b_band m ds
  | .bxor => b_bxor m ds
  | .neg => b_neg m ds
  | .eq => b_eq m ds
  | .ne => b_ne m ds
  | .lt => b_lt m ds
  | .le => b_le m ds
  | .gt => b_gt m ds
  | .ge => b_ge m ds
  | .isin => b_isin m ds
  | .notin => b_notin m ds
  | .is => b_is m ds
  | .isnot => b_isnot m ds
  | .idx => b_idx m ds
  | .rev => b_rev m ds
  | .len => b_len m ds
  | .sort => b_sort m ds
  | .sortr => b_sortr m ds
  | .sset => b_sset m ds
  | .sxor => b_sxor m ds
  | .lset => b_lset m ds
  | .all => b_all m ds
  | .any => b_any m ds
  | .sum => b_sum m ds
  | .min1 => b_min1 m ds
  | .max1 => b_max1 m ds
  | .min2 => b_min2 m ds
  | .max2 => b_max2 m ds
  | .abs => b_abs m ds
  | .int => b_int m ds
  | .list => b_list m ds
  | .tuple => b_tuple m ds
  | .dict => b_dict m ds
  | .dictz => b_dictz m ds
  | .dictzr => b_dictzr m ds
  | .listzip => b_listzip m ds
  | .listrng => b_listrng m ds
  | .values => b_values m ds
  | .ditems => b_ditems m ds
  | .get => b_get m ds
  | .index => b_index m ds
  | .bit_length => b_bit_length m ds
  | _ => none

/-! ### the evaluator -/
def slotD (r : List Sl) (i : Nat) : Option D := match r[i]? with
  | some (.v d) => some d
  | some (.o d) => some d
  | _ => none
def slotV (r : List Sl) (i : Nat) : Option D := match r[i]? with
  | some (.v d) => some d
  | _ => none
def slotO (r : List Sl) (i : Nat) : Option D := match r[i]? with
  | some (.o d) => some d
  | _ => none
def isLstO (r : List Sl) (i : Nat) : Bool := match r[i]? with
  | some (.o (.lst _)) => true
  | _ => false
def wipe (r : List Sl) : List Nat → List Sl
  | [] => r
  | i :: is => (wipe r is).set i .un
def noOwn (r : List Sl) (is : List Nat) : Bool := is.all fun i => match r[i]? with | some (.o _) => false | some _ => true | none => false
mutual
def assignT : T → D → List Sl → Option (List Sl)
  | .s i, d, r => match r[i]? with
    | some (.o _) => none
    | some _ => some (r.set i (.v d))
    | none => none
  | .t ts, .tup ds, r => assignTs ts ds r
  | .t ts, .lst ds, r => assignTs ts ds r
  | .t _, _, _ => none
def assignTs : List T → List D → List Sl → Option (List Sl)
  | [], [], r => some r
  | t :: ts, d :: ds, r => (assignT t d r).bind (assignTs ts ds)
  | _, _, _ => none
end
/-- an operand: a value, or the slot that is looked up when all are there -/
inductive Op where
  | d (d : D) | b (i : Nat)
def opD (r : List Sl) : Op → Option D
  | .d d => some d
  | .b i => slotD r i
def opsD (r : List Sl) : List Op → Option (List D)
  | [] => some []
  | o :: os => do let d ← opD r o; let ds ← opsD r os; some (d :: ds)
def truth : D → Option Bool
  | .bl b => some b
  | _ => none
def isLoc : D → Bool
  | .loc _ => true
  | _ => false
def isType (d : D) (t : Str) : Option Bool :=
  if isLoc d = true then none
  else if t = "str" then some (match d with | .str _ => true | _ => false)
  else if t = "int" then some (match d with | .int _ => true | .bl _ => true | _ => false)
  else if t = "bool" then some (match d with | .bl _ => true | _ => false)
  else if t = "list" then some (match d with | .lst _ => true | _ => false)
  else if t = "tuple" then some (match d with | .tup _ => true | _ => false)
  else if t = "dict" then some (match d with | .dct _ _ => true | _ => false)
  else match d with
    | .ins c _ _ => some (decide (c = t))
    | _ => some false
def isTypes (d : D) : List Str → Option Bool
  | [] => some false
  | t :: ts => do let a ← isType d t; let b ← isTypes d ts; some (a || b)

section
variable (C : Nat → List D → List D → CO) (init : Str → Option Nat)
def calls (f : Nat) (ds : List D) (r : List Sl) (m : List D) : O D :=
  match C f ds m with
  | .ok d m' => .ok d r m'
  | .ex x m' => .ex x r m'
  | .bad => .bad
/-- a comprehension's turns: each from the slots r0; what a turn makes of an item: kept or not -/
def turns (r0 : List Sl) (t : T) (f : List Sl → List D → O (Option D)) : List D → List D → O (List D)
  | [], m => .ok [] r0 m
  | x :: xs, m => match assignT t x r0 with
    | none => .bad
    | some r => match f r m with
      | .ok y r' m' => if r' = r then
          (turns r0 t f xs m').bind fun ys _ m2 => .ok (match y with | some y => y :: ys | none => ys) r0 m2
        else .bad
      | _ => .bad
/-- the turns of the first of two clauses -/
def turns2 (r0 : List Sl) (t : T) (f : List Sl → List D → O (List D)) : List D → List D → O (List D)
  | [], m => .ok [] r0 m
  | x :: xs, m => match assignT t x r0 with
    | none => .bad
    | some r => match f r m with
      | .ok y r' m' => if r' = r then
          (turns2 r0 t f xs m').bind fun ys _ m2 => .ok (y ++ ys) r0 m2
        else .bad
      | _ => .bad
/-- the items of a value that is walked -/
def seqK : D → Option (List D)
  | .tup xs => some xs
  | .lst xs => some xs
  | .str x => some (charsOf x)
  | _ => none
def seqF : D → Option (List D)
  | .tup xs => some xs
  | .lst xs => some xs
  | _ => none
def big (xs : List D) : Bool := decide (xs.length ≤ 1000000)
mutual
def evE : E → List Sl → List D → O D
  | .k d, r, m => .ok d r m
  | .gl _ d, r, m => .ok d r m
  | .v i, r, m => lift (slotV r i) r m
  | .bi f as, r, m => (evAs as r m).bind fun os r m => match opsD r os with
    | none => .bad
    | some ds => lift (biEval m f ds) r m
  | .and es, r, m => (evAnd es r m).bind fun b r m => .ok (.bl b) r m
  | .or es, r, m => (evOr es r m).bind fun b r m => .ok (.bl b) r m
  | .not e, r, m => (evE e r m).bind fun d r m => lift ((truth d).map fun b => .bl (!b)) r m
  | .ife c a b, r, m => (evE c r m).bind fun d r m => match truth d with
    | some true => evE a r m
    | some false => evE b r m
    | none => .bad
  | .tup es, r, m => (evEs es r m).bind fun ds r m => .ok (.tup ds) r m
  | .lst es, r, m => (evEs es r m).bind fun ds r m => .ok (.lst ds) r m
  | .dct kvs, r, m => (evEs kvs r m).bind fun ds r m => lift ((altOf ds).bind fun p => mkDict p.1 p.2) r m
  | .chain f g a b c, r, m => (evE a r m).bind fun x r m => (evE b r m).bind fun y r m => match biEval m f [x, y] with
    | some (.bl true) => (evE c r m).bind fun z r m => lift (biEval m g [y, z]) r m
    | some (.bl false) => .ok (.bl false) r m
    | _ => .bad
  | .att a f, r, m => (evA a r m).bind fun o r m => match (opD r o).bind (deref m) with
    | some (.ins _ ns vs) => lift ((ns.zip vs).lookup f) r m
    | _ => .bad
  | .isi _ a ts, r, m => (evA a r m).bind fun o r m => match opD r o with
    | some d => lift ((isTypes d ts).map .bl) r m
    | none => .bad
  | .call f es, r, m => (evEs es r m).bind fun ds r m => calls C f ds r m
  | .mk c es, r, m => (evEs es r m).bind fun ds r m => match init c with
    | some f => calls C f ds r m
    | none => .bad
  | .meth o f es, r, m => (evE o r m).bind fun x r m => (evEs es r m).bind fun ds r m => calls C f (x :: ds) r m
  | .lc ow e t i cs, r, m => (evI i r m).bind fun xs r m =>
      if noOwn r ow && big xs then
        (turns (wipe r ow) t (fun r m => (evAnd cs r m).bind fun b r m => if b then (evE e r m).bind fun d r m => .ok (some d) r m else .ok none r m) xs m).bind fun ys _ m => .ok (.lst ys) r m
      else .bad
  | .lc2 ow e t1 i1 cs1 t2 i2 cs2, r, m => (evI i1 r m).bind fun xs r m =>
      if noOwn r ow && big xs then
        (turns2 (wipe r ow) t1 (fun r m => (evAnd cs1 r m).bind fun b r m => if b then (evI i2 r m).bind fun xs2 r m =>
            (turns r t2 (fun r m => (evAnd cs2 r m).bind fun b r m => if b then (evE e r m).bind fun d r m => .ok (some d) r m else .ok none r m) xs2 m).bind fun ys _ m => .ok ys r m
          else .ok [] r m) xs m).bind fun ys _ m => .ok (.lst ys) r m
      else .bad
  | .dc ow k v t i cs, r, m => (evI i r m).bind fun xs r m =>
      if noOwn r ow && big xs then
        (turns (wipe r ow) t (fun r m => (evAnd cs r m).bind fun b r m => if b then (evE k r m).bind fun x r m => (evE v r m).bind fun y r m => .ok (some (.tup [x, y])) r m else .ok none r m) xs m).bind fun ys _ m =>
          lift ((pairsOf ys).bind fun p => mkDict p.1 p.2) r m
      else .bad
  | .s00 a, r, m => (evA a r m).bind fun o r m => lift ((opD r o).bind (sliceOf m none none)) r m
  | .s10 a e, r, m => (evA a r m).bind fun o r m => (evE e r m).bind fun x r m => match x with
    | .int n => lift ((opD r o).bind (sliceOf m (some n) none)) r m
    | _ => .bad
  | .s01 a e, r, m => (evA a r m).bind fun o r m => (evE e r m).bind fun x r m => match x with
    | .int n => lift ((opD r o).bind (sliceOf m none (some n))) r m
    | _ => .bad
  | .s11 a e f, r, m => (evA a r m).bind fun o r m => (evE e r m).bind fun x r m => match x with
    | .int n => (evE f r m).bind fun y r m => match y with
      | .int k => lift ((opD r o).bind (sliceOf m (some n) (some k))) r m
      | _ => .bad
    | _ => .bad
  | .pop i, r, m => match slotO r i with
    | some (.lst xs) => match xs.getLast? with
      | some d => .ok d (r.set i (.o (.lst xs.dropLast))) m
      | none => .bad
    | _ => .bad
  | .popA i e, r, m => if isLstO r i then (evE e r m).bind fun k r m => match slotO r i, k with
    | some (.lst xs), .int j => if 0 ≤ j ∧ j < 1000000 then match xs[j.toNat]? with
        | some d => .ok d (r.set i (.o (.lst (xs.eraseIdx j.toNat)))) m
        | none => .bad
      else .bad
    | _, _ => .bad
    else .bad
def evEs : List E → List Sl → List D → O (List D)
  | [], r, m => .ok [] r m
  | e :: es, r, m => (evE e r m).bind fun d r m => (evEs es r m).bind fun ds r m => .ok (d :: ds) r m
/-- and: stops at the first false -/
def evAnd : List E → List Sl → List D → O Bool
  | [], r, m => .ok true r m
  | e :: es, r, m => (evE e r m).bind fun d r m => match truth d with
    | some true => evAnd es r m
    | some false => .ok false r m
    | none => .bad
/-- or: stops at the first true -/
def evOr : List E → List Sl → List D → O Bool
  | [], r, m => .ok false r m
  | e :: es, r, m => (evE e r m).bind fun d r m => match truth d with
    | some false => evOr es r m
    | some true => .ok true r m
    | none => .bad
def evA : A → List Sl → List D → O Op
  | .e e, r, m => (evE e r m).bind fun d r m => .ok (.d d) r m
  | .b i, r, m => match slotD r i with
    | some _ => .ok (.b i) r m
    | none => .bad
def evAs : List A → List Sl → List D → O (List Op)
  | [], r, m => .ok [] r m
  | a :: as, r, m => (evA a r m).bind fun o r m => (evAs as r m).bind fun os r m => .ok (o :: os) r m
/-- what a loop walks -/
def evI : I → List Sl → List D → O (List D)
  | .seq e, r, m => (evE e r m).bind fun d r m => lift (seqK d) r m
  | .enum e, r, m => (evE e r m).bind fun d r m => lift ((seqF d).map (enumD 0)) r m
  | .zip a b, r, m => (evE a r m).bind fun d r m => (evE b r m).bind fun e r m => lift (match seqF d, seqF e with | some x, some y => some (zipD x y) | _, _ => none) r m
  | .rng e, r, m => (evE e r m).bind fun d r m => match d with
    | .int n => if small62 n then .ok (rngD 0 n) r m else .bad
    | _ => .bad
  | .rng2 a b, r, m => (evE a r m).bind fun x r m => (evE b r m).bind fun y r m => match x, y with
    | .int i, .int j => if small62 i && small62 j then .ok (rngD i j) r m else .bad
    | _, _ => .bad
  | .items e, r, m => (evE e r m).bind fun d r m => match d with
    | .dct ks vs => .ok (zipD ks vs) r m
    | _ => .bad
  | .vals e, r, m => (evE e r m).bind fun d r m => match d with
    | .dct _ vs => .ok vs r m
    | _ => .bad
end

/-- what a statement comes to -/
inductive F where
  | nx | rt (d : D)
def loopF (t : T) (f : List Sl → List D → O F) : List D → List Sl → List D → O F
  | [], r, m => .ok .nx r m
  | x :: xs, r, m => match assignT t x r with
    | none => .bad
    | some r => (f r m).bind fun k r m => match k with
      | .nx => loopF t f xs r m
      | .rt d => .ok (.rt d) r m
def loopW (c : List Sl → List D → O D) (f : List Sl → List D → O F) : Nat → List Sl → List D → O F
  | 0, _, _ => .bad
  | n + 1, r, m => (c r m).bind fun d r m => match truth d with
    | some false => .ok .nx r m
    | some true => (f r m).bind fun k r m => match k with
      | .nx => loopW c f n r m
      | .rt d => .ok (.rt d) r m
    | none => .bad
def freeze (r : List Sl) : List Nat → List Sl
  | [] => r
  | i :: is => match r[i]? with
    | some (.o d) => freeze (r.set i (.v d)) is
    | _ => freeze r is
def setV (r : List Sl) (i : Nat) (d : D) (m : List D) : O F := if i < r.length then .ok .nx (r.set i (.v d)) m else .bad
def isCont : D → Bool
  | .lst _ => true | .dct _ _ => true | _ => false
variable (W : Nat)
mutual
def evS : S → List Sl → List D → O F
  | .pass, r, m => .ok .nx r m
  | .ex e, r, m => (evE C init e r m).bind fun _ r m => .ok .nx r m
  | .ret e, r, m => (evE C init e r m).bind fun d r m => .ok (.rt d) r m
  | .retF e, r, m => (evE C init e r m).bind fun d r m => if isCont d = true then .ok (.rt d) r m else .bad
  | .retN, r, m => .ok (.rt .non) r m
  | .retO i, r, m => match slotO r i with
    | some d => if isCont d = true then .ok (.rt d) r m else .bad
    | none => .bad
  | .set i e, r, m => (evE C init e r m).bind fun d r m => setV r i d m
  | .setO i e, r, m => (evE C init e r m).bind fun d r m => if isCont d = true then (if i < r.length then .ok .nx (r.set i (.o d)) m else .bad) else .bad
  | .setT t e, r, m => (evE C init e r m).bind fun d r m => match assignT t d r with
    | some r => .ok .nx r m
    | none => .bad
  | .par i j a b, r, m => (evE C init a r m).bind fun x r m => (evE C init b r m).bind fun y r m => if i < r.length ∧ j < r.length ∧ i ≠ j then .ok .nx ((r.set i (.v x)).set j (.v y)) m else .bad
  | .box i e, r, m => (evE C init e r m).bind fun d r m => if i < r.length then match d with
      | .lst xs => .ok .nx (r.set i (.v (.loc m.length))) (m ++ [.lst xs])
      | _ => .bad
    else .bad
  | .app i e, r, m => if isLstO r i then (evE C init e r m).bind fun d r m => match slotO r i with
    | some (.lst xs) => if xs.length < 1000000 then .ok .nx (r.set i (.o (.lst (xs ++ [d])))) m else .bad
    | _ => .bad
    else .bad
  | .ext i e, r, m => if isLstO r i then (evE C init e r m).bind fun d r m => match slotO r i, d with
    | some (.lst xs), .lst ys => if xs.length + ys.length < 1000000 then .ok .nx (r.set i (.o (.lst (xs ++ ys)))) m else .bad
    | _, _ => .bad
    else .bad
  | .extB i j, r, m => match slotO r i, slotO r j with
    | some (.lst xs), some (.lst ys) => if xs.length + ys.length < 1000000 then .ok .nx (r.set i (.o (.lst (xs ++ ys)))) m else .bad
    | _, _ => .bad
  | .revs i, r, m => match slotO r i with
    | some (.lst xs) => .ok .nx (r.set i (.o (.lst xs.reverse))) m
    | _ => .bad
  | .clr i, r, m => match slotO r i with
    | some (.lst _) => .ok .nx (r.set i (.o (.lst []))) m
    | _ => .bad
  | .setK i k e, r, m => (evE C init e r m).bind fun d r m => if isLstO r i then (evE C init k r m).bind fun x r m => match slotO r i, x with
    | some (.lst xs), .int j => if 0 ≤ j ∧ j < xs.length ∧ j < 1000000 then .ok .nx (r.set i (.o (.lst (xs.set j.toNat d)))) m else .bad
    | _, _ => .bad
    else .bad
  | .setL i k e, r, m => (evE C init e r m).bind fun d r m => match slotV r i with
    | some (.loc n) => (evE C init k r m).bind fun x r m => match x, m[n]? with
      | .int j, some (.lst xs) => if 0 ≤ j ∧ j < xs.length ∧ j < 1000000 then .ok .nx r (m.set n (.lst (xs.set j.toNat d))) else .bad
      | _, _ => .bad
    | _ => .bad
  | .upd _ _, _, _ => .bad
  | .aug i f e, r, m => match slotV r i with
    | some (.int x) => (evE C init e r m).bind fun d r m => match d, biEval m f [.int x, d] with
      | .int _, some z => setV r i z m
      | _, _ => .bad
    | _ => .bad
  | .fld i f e, r, m => (evE C init e r m).bind fun d r m => match slotV r i with
    | some (.loc n) => match m[n]? with
      | some (.ins c ns vs) => if f ∈ ns ∨ 900 < ns.length then .bad else .ok .nx r (m.set n (.ins c (ns ++ [f]) (vs ++ [d])))
      | _ => .bad
    | _ => .bad
  | .ite c a b, r, m => (evE C init c r m).bind fun d r m => match truth d with
    | some true => evSs a r m
    | some false => evSs b r m
    | none => .bad
  | .for t i b, r, m => (evI C init i r m).bind fun xs r m => loopF t (evSs b) xs r m
  | .while c b, r, m => loopW (evE C init c) (evSs b) W r m
  | .raise c es, r, m => (evEs C init es r m).bind fun ds r m => .ex (.ins c [] ds) r m
  | .fr is s, r, m => evS s (freeze r is) m
def evSs : List S → List Sl → List D → O F
  | [], r, m => .ok .nx r m
  | s :: ss, r, m => (evS s r m).bind fun k r m => match k with
    | .nx => evSs ss r m
    | .rt d => .ok (.rt d) r m
end
end

mutual
/-- no location is in it -/
def noLoc : D → Bool
  | .loc _ => false
  | .tup xs => noLocs xs
  | .lst xs => noLocs xs
  | .dct ks vs => noLocs ks && noLocs vs
  | .ins _ _ vs => noLocs vs
  | _ => true
def noLocs : List D → Bool
  | [] => true
  | x :: xs => noLoc x && noLocs xs
end
/-- a def: its parameters' number, its slots' names (parameters first), its body; what it makes: an instance of the class (an __init__), a new container, any value -/
inductive Kd where
  | any | new | init (c : Str)
  deriving DecidableEq
structure Fd where
  ps : Nat
  ns : List Str
  kd : Kd
  body : List S
/-- a table of defs; a def may be given by what it does -/
inductive Fn where
  | d (f : Fd)
  | x (g : (Nat → List D → List D → CO) → List D → List D → CO)
def runFd (C : Nat → List D → List D → CO) (init : Str → Option Nat) (W : Nat) (f : Fd) (ds : List D) (m : List D) : CO :=
  match f.kd with
  | .init c => if ds.length + 1 = f.ps then match evSs C init W f.body (.v (.loc m.length) :: (ds.map Sl.v ++ List.replicate (f.ns.length - f.ps) .un)) (m ++ [.ins c [] []]) with
      | .ok .nx _ m' => match m'.drop m.length with
        | [d] => if noLoc d && noLocs (m'.take m.length) then .ok d (m'.take m.length) else .bad
        | _ => .bad
      | .ok (.rt _) _ _ => .bad
      | .ex x _ m' => .ex x (m'.take m.length)
      | .bad => .bad
    else .bad
  | _ => if ds.length = f.ps then match evSs C init W f.body (ds.map Sl.v ++ List.replicate (f.ns.length - f.ps) .un) m with
      | .ok .nx _ m' => if f.kd = .new then .bad else .ok .non m'
      | .ok (.rt d) _ m' => .ok d m'
      | .ex x _ m' => .ex x m'
      | .bad => .bad
    else .bad
def call (F : Nat → Option Fn) (init : Str → Option Nat) (W : Nat) : Nat → Nat → List D → List D → CO
  | 0, _, _, _ => .bad
  | n + 1, f, ds, m => match F f with
    | some (.d fd) => runFd (call F init W n) init W fd ds m
    | some (.x g) => g (call F init W n) ds m
    | none => .bad
end Mi
end
section
set_option maxRecDepth 100000
/-! Mi: what stands in the model's heap for a value; the state of a frame. -/
namespace Mi
open PySem L2

mutual
/-- a key as the library has it -/
def nk : D → NestedKey
  | .non => .none
  | .bl b => .num (if b then 1 else 0)
  | .int i => .num i
  | .str x => .text x
  | .tup xs => .tup (nks xs)
  | .lst _ => .none
  | .dct _ _ => .none
  | .ins _ _ _ => .none
  | .loc _ => .none
def nks : List D → List NestedKey
  | [] => []
  | x :: xs => nk x :: nks xs
end
def khash (w : World) (d : D) : Int := (nk d).hash w

/-- the whole: the written part, where the classes stand, the world -/
structure Glo where
  K : PySem.W.Frag
  w : World
  cA : Str → Option Addr

/-- a dict's object, its entries as they stand: hash, key, value -/
def dctO (a : Addr) (L : List (Int × Value × Value)) : HO := .ext fun h => (a == sysModules) = false ∧ ∃ o es ep, h.get? a = some o ∧ o.ExactDict ∧ o.data = .dict es ep ∧ es.toList = L.map fun x => ⟨x.1, x.2.1, x.2.2⟩

mutual
/-- x stands for the value d: what it reaches stands in Hm, which nothing changes; i: the locations -/
inductive Rep (Γ : Glo) (Hm : Hp) (i : List Addr) : V → D → Prop where
  | non : Rep Γ Hm i .non .non
  | bl (b : Bool) : Rep Γ Hm i (.bl b) (.bl b)
  | int (n : Int) : Rep Γ Hm i (.int n) (.int n)
  | str (x : Str) : Rep Γ Hm i (.str x) (.str x)
  | tup {a : Addr} {xs : List V} {ds : List D} : SqT Γ.K Hm a xs → Reps Γ Hm i xs ds → Rep Γ Hm i (.ref a) (.tup ds)
  | lst {a : Addr} {xs : List V} {ds : List D} : SqL Γ.K Hm a xs → Reps Γ Hm i xs ds → Rep Γ Hm i (.ref a) (.lst ds)
  | dct {a : Addr} {L : List (Int × Value × Value)} {ks vs : List D} : Hm a = some (dctO a L) → RepE Γ Hm i L ks vs → setable ks = true → ks.Nodup → Rep Γ Hm i (.ref a) (.dct ks vs)
  | ins {a C dx : Addr} {fs : List (Str × V)} {c : Str} {ns : List Str} {ds : List D} : Hm a = some (.ins C dx fs) → Γ.cA c = some C → fs.map (·.1) = ns → Reps Γ Hm i (fs.map (·.2)) ds → Rep Γ Hm i (.ref a) (.ins c ns ds)
  | loc {n : Nat} {a : Addr} : i[n]? = some a → Rep Γ Hm i (.ref a) (.loc n)
inductive Reps (Γ : Glo) (Hm : Hp) (i : List Addr) : List V → List D → Prop where
  | nil : Reps Γ Hm i [] []
  | cons {x : V} {d : D} {xs : List V} {ds : List D} : Rep Γ Hm i x d → Reps Γ Hm i xs ds → Reps Γ Hm i (x :: xs) (d :: ds)
inductive RepE (Γ : Glo) (Hm : Hp) (i : List Addr) : List (Int × Value × Value) → List D → List D → Prop where
  | nil : RepE Γ Hm i [] [] []
  | cons {x y : V} {u v : Value} {k d : D} {L : List (Int × Value × Value)} {ks vs : List D} : RelV x u → Rep Γ Hm i x k → RelV y v → Rep Γ Hm i y d → RepE Γ Hm i L ks vs → RepE Γ Hm i ((khash Γ.w k, u, v) :: L) (k :: ks) (d :: vs)
end

/-- what stands at an owned object -/
inductive Con (Γ : Glo) (Hm : Hp) (i : List Addr) (a : Addr) : HO → D → Prop where
  | lst {xs : List V} {ds : List D} : Reps Γ Hm i xs ds → Con Γ Hm i a (.lst xs) (.lst ds)
  | dct {L : List (Int × Value × Value)} {ks vs : List D} : RepE Γ Hm i L ks vs → setable ks = true → ks.Nodup → Con Γ Hm i a (dctO a L) (.dct ks vs)
  | ins {C dx : Addr} {fs : List (Str × V)} {c : Str} {ns : List Str} {ds : List D} : Γ.cA c = some C → fs.map (·.1) = ns → Reps Γ Hm i (fs.map (·.2)) ds → Con Γ Hm i a (.ins C dx fs) (.ins c ns ds)

def Le (H H' : Hp) : Prop := ∀ a o, H a = some o → H' a = some o
theorem Le.refl (H : Hp) : Le H H := fun _ _ h => h
theorem Le.trans {A B C : Hp} (x : Le A B) (y : Le B C) : Le A C := fun a o h => y a o (x a o h)
theorem le_none {A B : Hp} (x : Le A B) {a : Addr} (h : B a = none) : A a = none := by
  cases e : A a with
  | none => rfl
  | some o => rw [x a o e] at h; cases h
theorem le_upd {H : Hp} {a : Addr} {o : HO} (h : H a = none) : Le H (upd H a o) := fun b u e => by
  rw [upd_ne (ne_of_none e h)]; exact e
theorem le_updd {Hm H : Hp} (l : Le Hm H) {a : Addr} {o : HO} : Le (upd Hm a o) (upd H a o) := fun b u e => by
  by_cases h : b = a
  · subst h; rw [upd_same] at e ⊢; exact e
  · rw [upd_ne h] at e ⊢; exact l b u e
theorem Rd.le {H H' : Hp} (l : Le H H') {a : Addr} {u : HO} (r : Rd H a u) : Rd H' a u := by
  rcases r with r | ⟨o, r⟩
  · exact .inl (l _ _ r)
  · exact .inr ⟨o, l _ _ r⟩
theorem SqL.le {K : PySem.W.Frag} {H H' : Hp} (l : Le H H') {a : Addr} {xs : List V} (r : SqL K H a xs) : SqL K H' a xs := r.imp (Rd.le l) id
theorem SqT.le {K : PySem.W.Frag} {H H' : Hp} (l : Le H H') {a : Addr} {xs : List V} (r : SqT K H a xs) : SqT K H' a xs := r.imp (Rd.le l) id
theorem ix_pre {α : Type} {i j : List α} (p : i <+: j) {n : Nat} {a : α} (h : i[n]? = some a) : j[n]? = some a := by
  obtain ⟨t, rfl⟩ := p
  obtain ⟨hn, _⟩ := List.getElem?_eq_some_iff.mp h
  rw [List.getElem?_append_left hn]; exact h

section
variable {Γ : Glo} {H H' : Hp} {i i' : List Addr}
mutual
theorem Rep.le (l : Le H H') (p : i <+: i') : ∀ {x : V} {d : D}, Rep Γ H i x d → Rep Γ H' i' x d
  | _, _, .non => .non
  | _, _, .bl b => .bl b
  | _, _, .int n => .int n
  | _, _, .str x => .str x
  | _, _, .tup h r => .tup (SqT.le l h) (Reps.le l p r)
  | _, _, .lst h r => .lst (SqL.le l h) (Reps.le l p r)
  | _, _, .dct h r s n => .dct (l _ _ h) (RepE.le l p r) s n
  | _, _, .ins h c e r => .ins (l _ _ h) c e (Reps.le l p r)
  | _, _, .loc h => .loc (ix_pre p h)
theorem Reps.le (l : Le H H') (p : i <+: i') : ∀ {x : List V} {d : List D}, Reps Γ H i x d → Reps Γ H' i' x d
  | _, _, .nil => .nil
  | _, _, .cons h r => .cons (Rep.le l p h) (Reps.le l p r)
theorem RepE.le (l : Le H H') (p : i <+: i') : ∀ {L : List (Int × Value × Value)} {ks vs : List D}, RepE Γ H i L ks vs → RepE Γ H' i' L ks vs
  | _, _, _, .nil => .nil
  | _, _, _, .cons a b c d r => .cons a (Rep.le l p b) c (Rep.le l p d) (RepE.le l p r)
end
theorem Con.le (l : Le H H') (p : i <+: i') {a : Addr} {o : HO} {d : D} (h : Con Γ H i a o d) : Con Γ H' i' a o d := by
  cases h with
  | lst r => exact .lst (r.le l p)
  | dct r s n => exact .dct (r.le l p) s n
  | ins c e r => exact .ins c e (r.le l p)
theorem Reps.length : ∀ {xs : List V} {ds : List D}, Reps Γ H i xs ds → xs.length = ds.length
  | _, _, .nil => rfl
  | _, _, .cons _ r => by simp [Reps.length r]
theorem Reps.get {xs : List V} {ds : List D} (r : Reps Γ H i xs ds) : ∀ {n : Nat} {x : V}, xs[n]? = some x → ∃ d, ds[n]? = some d ∧ Rep Γ H i x d := by
  induction xs generalizing ds with
  | nil => intro n x e; simp at e
  | cons y ys ih =>
    intro n x e
    cases r with
    | cons h t =>
      cases n with
      | zero => simp at e; subst e; exact ⟨_, rfl, h⟩
      | succ n =>
        obtain ⟨d, e2, q⟩ := ih t (n := n) (x := x) (by simpa using e)
        exact ⟨d, by simpa using e2, q⟩
theorem Reps.get' {xs : List V} {ds : List D} (r : Reps Γ H i xs ds) : ∀ {n : Nat} {d : D}, ds[n]? = some d → ∃ x, xs[n]? = some x ∧ Rep Γ H i x d := by
  induction xs generalizing ds with
  | nil => intro n x e; cases r; simp at e
  | cons y ys ih =>
    intro n x e
    cases r with
    | cons h t =>
      cases n with
      | zero => simp at e; subst e; exact ⟨_, rfl, h⟩
      | succ n =>
        obtain ⟨d, e2, q⟩ := ih t (n := n) (d := x) (by simpa using e)
        exact ⟨d, by simpa using e2, q⟩
theorem Reps.app : ∀ {xs : List V} {ds : List D} {ys : List V} {es : List D}, Reps Γ H i xs ds → Reps Γ H i ys es → Reps Γ H i (xs ++ ys) (ds ++ es)
  | _, _, _, _, .nil, s => s
  | _, _, _, _, .cons h r, s => .cons h (Reps.app r s)
/-- freezing: an owned object becomes a value -/
theorem Con.freeze {a : Addr} {o : HO} {d : D} (h : Con Γ H i a o d) (hn : H a = none) : Rep Γ (upd H a o) i (.ref a) d := by
  have l : Le H (upd H a o) := le_upd hn
  cases h with
  | lst r => exact .lst (SqL.of upd_same) (r.le l (List.prefix_refl _))
  | dct r s n => exact .dct upd_same (r.le l (List.prefix_refl _)) s n
  | ins c e r => exact .ins upd_same c e (r.le l (List.prefix_refl _))
end

/-! ### the state of a frame -/
/-- a call's entry: the heap, the frozen part, the locations -/
structure Act where
  H0 : Hp
  Hm0 : Hp
  i0 : List Addr
structure R (Γ : Glo) (G : Act) (Hm : Hp) (i : List Addr) (r : List Sl) (m : List D) (σ : St) (H : Hp) : Prop where
  sub : Le Hm H
  len : σ.length = r.length
  val : ∀ (n : Nat) (d : D), r[n]? = some (.v d) → ∃ x, σ[n]? = some (some x) ∧ Rep Γ Hm i x d
  own : ∀ (n : Nat) (d : D), r[n]? = some (.o d) → ∃ a o, σ[n]? = some (some (.ref a)) ∧ H a = some o ∧ Hm a = none ∧ a ∉ i ∧ G.H0 a = none ∧ Con Γ Hm i a o d
  apart : ∀ (n k : Nat) (d e : D) (a : Addr), n ≠ k → r[n]? = some (.o d) → r[k]? = some (.o e) → σ[n]? = some (some (.ref a)) → σ[k]? ≠ some (some (.ref a))
  loc : ∀ (n : Nat) (d : D), m[n]? = some d → ∃ a o, i[n]? = some a ∧ H a = some o ∧ Hm a = none ∧ Con Γ Hm i a o d
  locl : i.length = m.length
  locd : i.Nodup
  keep : ∀ (a : Addr) (o : HO), G.H0 a = some o → a ∉ G.i0 → H a = some o
  new : ∀ (a : Addr) (o : HO), Hm a = some o → G.Hm0 a = some o ∨ G.H0 a = none
  old : Le G.Hm0 Hm
  pre : G.i0 <+: i
  locn : ∀ a : Addr, a ∈ i → a ∈ G.i0 ∨ G.H0 a = none
/-- from a state to a later one -/
structure Go (Hm : Hp) (i : List Addr) (Hm' : Hp) (i' : List Addr) : Prop where
  hm : Le Hm Hm'
  pre : i <+: i'
theorem Go.refl (Hm : Hp) (i : List Addr) : Go Hm i Hm i := ⟨Le.refl _, List.prefix_refl _⟩
theorem Go.trans {A B C : Hp} {i j k : List Addr} (x : Go A i B j) (y : Go B j C k) : Go A i C k := ⟨x.hm.trans y.hm, x.pre.trans y.pre⟩
section
variable {Γ : Glo} {G : Act} {Hm H Hm' H' : Hp} {i i' : List Addr} {r r' : List Sl} {m m' : List D} {σ : St}
theorem Rep.go (g : Go Hm i Hm' i') {x : V} {d : D} (h : Rep Γ Hm i x d) : Rep Γ Hm' i' x d := h.le g.hm g.pre
theorem Reps.go (g : Go Hm i Hm' i') {x : List V} {d : List D} (h : Reps Γ Hm i x d) : Reps Γ Hm' i' x d := h.le g.hm g.pre

/-- new objects are laid, frozen ones and loose ones; all that stood stands -/
theorem R.grow (x : R Γ G Hm i r m σ H) (l : Le H H') (lm : Le Hm Hm') (sub : Le Hm' H') (hn : ∀ a o, Hm' a = some o → Hm a = some o ∨ H a = none) : R Γ G Hm' i r m σ H' where
  sub := sub
  len := x.len
  val := fun n d e => let ⟨v, h1, h2⟩ := x.val n d e; ⟨v, h1, h2.le lm (List.prefix_refl _)⟩
  own := fun n d e => by
    obtain ⟨a, o, h1, h2, h3, h4, h5, h6⟩ := x.own n d e
    refine ⟨a, o, h1, l _ _ h2, ?_, h4, h5, h6.le lm (List.prefix_refl _)⟩
    cases q : Hm' a with
    | none => rfl
    | some u =>
      rcases hn a u q with z | z
      · rw [h3] at z; cases z
      · rw [h2] at z; cases z
  apart := x.apart
  loc := fun n d e => by
    obtain ⟨a, o, h1, h2, h3, h4⟩ := x.loc n d e
    refine ⟨a, o, h1, l _ _ h2, ?_, h4.le lm (List.prefix_refl _)⟩
    cases q : Hm' a with
    | none => rfl
    | some u =>
      rcases hn a u q with z | z
      · rw [h3] at z; cases z
      · rw [h2] at z; cases z
  locl := x.locl
  locd := x.locd
  keep := fun a o h h' => l _ _ (x.keep a o h h')
  new := fun a o h => by
    rcases hn a o h with z | z
    · exact x.new a o z
    · right
      cases q : G.H0 a with
      | none => rfl
      | some u =>
        by_cases hi : a ∈ G.i0
        · obtain ⟨k, hk⟩ := List.mem_iff_getElem?.mp hi
          have hk' := ix_pre x.pre hk
          have hlt : k < m.length := by rw [← x.locl]; exact (List.getElem?_eq_some_iff.mp hk').1
          obtain ⟨b, ob, e1, e2, _⟩ := x.loc k (m[k]) (by simp [hlt])
          rw [hk'] at e1; cases e1
          rw [e2] at z; cases z
        · rw [x.keep a u q hi] at z; cases z
  old := x.old.trans lm
  pre := x.pre
  locn := x.locn
/-- a free address is no one's -/
theorem R.free (x : R Γ G Hm i r m σ H) {a : Addr} (h : H a = none) : Hm a = none ∧ a ∉ i ∧ G.H0 a = none := by
  have hi : a ∉ i := fun hi => by
    obtain ⟨k, hk⟩ := List.mem_iff_getElem?.mp hi
    have hlt : k < m.length := by rw [← x.locl]; exact (List.getElem?_eq_some_iff.mp hk).1
    obtain ⟨b, ob, e1, e2, _⟩ := x.loc k (m[k]) (by simp [hlt])
    rw [hk] at e1; cases e1
    rw [h] at e2; cases e2
  refine ⟨le_none x.sub h, hi, ?_⟩
  cases q : G.H0 a with
  | none => rfl
  | some u =>
    have : a ∉ G.i0 := fun z => hi (x.pre.subset z)
    rw [x.keep a u q this] at h; cases h
/-- a new frozen object -/
theorem R.froz (x : R Γ G Hm i r m σ H) {a : Addr} (h : H a = none) (o : HO) : R Γ G (upd Hm a o) i r m σ (upd H a o) :=
  x.grow (le_upd h) (le_upd (le_none x.sub h)) (le_updd x.sub) fun b u e => by
    by_cases hb : b = a
    · subst hb; exact .inr h
    · rw [upd_ne hb] at e; exact .inl e
/-- a new loose object -/
theorem R.loose (x : R Γ G Hm i r m σ H) {a : Addr} (h : H a = none) (o : HO) : R Γ G Hm i r m σ (upd H a o) :=
  x.grow (le_upd h) (Le.refl _) (x.sub.trans (le_upd h)) fun _ _ e => .inl e
theorem Go.froz {a : Addr} (h : Hm a = none) (o : HO) : Go Hm i (upd Hm a o) i := ⟨le_upd h, List.prefix_refl _⟩
end
end Mi
end
section
set_option maxRecDepth 100000
/-! Mi: the judgements, and how operations are read. -/
namespace Mi
open PySem L2

/-- what is allowed of an exception: its value, the frame, the store, the frozen part, the locations -/
abbrev KEt := Act → D → List Sl → List D → Hp → List Addr → Prop
def After {α : Type} (Γ : Glo) (G : Act) (σ : St) (KE : KEt) (Hm : Hp) (i : List Addr) (o : O α) (K : α → List Sl → List D → Hp → List Addr → Hp → Prop) : Prop :=
  match o with
  | .ok a r m => ∀ Hm' i' H', Go Hm i Hm' i' → R Γ G Hm' i' r m σ H' → K a r m Hm' i' H'
  | .ex x r m => ∀ Hm' i', Go Hm i Hm' i' → KE G x r m Hm' i'
  | .bad => False
section
variable {α β : Type} {Γ : Glo} {G : Act} {σ : St} {KE : KEt} {Hm Hm1 H : Hp} {i i1 : List Addr} {r : List Sl} {m : List D}
theorem After.later {o : O α} {K : α → List Sl → List D → Hp → List Addr → Hp → Prop} (g : Go Hm i Hm1 i1) (h : After Γ G σ KE Hm i o K) : After Γ G σ KE Hm1 i1 o K := by
  cases o with
  | ok a r m => exact fun Hm' i' H' g' => h Hm' i' H' (g.trans g')
  | ex x r m => exact fun Hm' i' g' => h Hm' i' (g.trans g')
  | bad => exact h
theorem After.imp {o : O α} {K K' : α → List Sl → List D → Hp → List Addr → Hp → Prop} (h : After Γ G σ KE Hm i o K) (f : ∀ a r m Hm' i' H', Go Hm i Hm' i' → R Γ G Hm' i' r m σ H' → K a r m Hm' i' H' → K' a r m Hm' i' H') : After Γ G σ KE Hm i o K' := by
  cases o with
  | ok a r m => exact fun Hm' i' H' g' x => f _ _ _ _ _ _ g' x (h Hm' i' H' g' x)
  | ex x r m => exact h
  | bad => exact h
theorem After.bind {o : O α} {f : α → List Sl → List D → O β} {K : β → List Sl → List D → Hp → List Addr → Hp → Prop} (h : After Γ G σ KE Hm i (o.bind f) K) :
    After Γ G σ KE Hm i o fun a r m Hm1 i1 _ => After Γ G σ KE Hm1 i1 (f a r m) K := by
  cases o with
  | ok a r m => exact fun Hm' i' H' g' _ => After.later g' h
  | ex x r m => exact h
  | bad => exact h
/-- a result that is there at once -/
theorem After.here {a : α} {K : α → List Sl → List D → Hp → List Addr → Hp → Prop} (h : After Γ G σ KE Hm i (.ok a r m) K) (x : R Γ G Hm i r m σ H) : K a r m Hm i H := h Hm i H (Go.refl _ _) x
end

/-- an operand's value -/
inductive OpRep (Γ : Glo) (Hm : Hp) (i : List Addr) (σ : St) : V → Op → Prop where
  | d {x : V} {d : D} : Rep Γ Hm i x d → OpRep Γ Hm i σ x (.d d)
  | b {x : V} {n : Nat} : σ[n]? = some (some x) → OpRep Γ Hm i σ x (.b n)
theorem OpRep.go {Γ : Glo} {Hm Hm' : Hp} {i i' : List Addr} {σ : St} {x : V} {o : Op} (g : Go Hm i Hm' i') (h : OpRep Γ Hm i σ x o) : OpRep Γ Hm' i' σ x o := by
  cases h with
  | d h => exact .d (h.go g)
  | b h => exact .b h
inductive OpsRep (Γ : Glo) (Hm : Hp) (i : List Addr) (σ : St) : List V → List Op → Prop where
  | nil : OpsRep Γ Hm i σ [] []
  | cons {x : V} {o : Op} {xs : List V} {os : List Op} : OpRep Γ Hm i σ x o → OpsRep Γ Hm i σ xs os → OpsRep Γ Hm i σ (x :: xs) (o :: os)

def TM (Γ : Glo) (KE : KEt) (ev : List Sl → List D → O D) : TE := fun σ H Q => ∃ G Hm i r m, R Γ G Hm i r m σ H ∧
  After Γ G σ KE Hm i (ev r m) fun d _ _ Hm' i' H' => ∀ v, Rep Γ Hm' i' v d → Q v H'
def TO (Γ : Glo) (KE : KEt) (ev : List Sl → List D → O Op) : TE := fun σ H Q => ∃ G Hm i r m, R Γ G Hm i r m σ H ∧
  After Γ G σ KE Hm i (ev r m) fun o _ _ Hm' i' H' => ∀ v, OpRep Γ Hm' i' σ v o → Q v H'
/-- a container, or nothing -/
def contO (o : O D) : O D := o.bind fun d r m => if isCont d = true then .ok d r m else .bad
/-- a new container, not yet frozen, that no slot holds -/
structure NewAt (Γ : Glo) (G : Act) (Hm : Hp) (i : List Addr) (r : List Sl) (σ : St) (H : Hp) (a : Addr) (o : HO) (d : D) : Prop where
  at_ : H a = some o
  hm : Hm a = none
  ni : a ∉ i
  h0 : G.H0 a = none
  con : Con Γ Hm i a o d
  ap : ∀ (n : Nat) (e : D), r[n]? = some (.o e) → σ[n]? ≠ some (some (.ref a))
def TN (Γ : Glo) (KE : KEt) (ev : List Sl → List D → O D) : TE := fun σ H Q => ∃ G Hm i r m, R Γ G Hm i r m σ H ∧
  After Γ G σ KE Hm i (contO (ev r m)) fun d r' _ Hm' i' H' => ∀ a o, NewAt Γ G Hm' i' r' σ H' a o d → Q (.ref a) H'
def TB (Γ : Glo) (KE : KEt) (ev : List Sl → List D → O Bool) : TT := fun σ H Q => ∃ G Hm i r m, R Γ G Hm i r m σ H ∧
  After Γ G σ KE Hm i (ev r m) fun b _ _ _ _ H' => Q b H'
def TA (Γ : Glo) (KE : KEt) (ev : List Sl → List D → O (List D)) : L2.TA := fun σ H Q => ∃ G Hm i r m, R Γ G Hm i r m σ H ∧
  After Γ G σ KE Hm i (ev r m) fun ds _ _ Hm' i' H' => ∀ vs, Reps Γ Hm' i' vs ds → Q vs H'
def TAo (Γ : Glo) (KE : KEt) (ev : List Sl → List D → O (List Op)) : L2.TA := fun σ H Q => ∃ G Hm i r m, R Γ G Hm i r m σ H ∧
  After Γ G σ KE Hm i (ev r m) fun os _ _ Hm' i' H' => ∀ vs, OpsRep Γ Hm' i' σ vs os → Q vs H'

theorem pe_weak {X : Cx} {e : Expr} {t t' : TE} (h : PE X e t) (w : ∀ σ H Q, t' σ H Q → t σ H Q) : PE X e t' := ⟨fun pins s σ H Q I q => h.run pins s σ H Q I (w σ H Q q)⟩
theorem pt_weak {X : Cx} {e : Expr} {t t' : TT} (h : PT X e t) (w : ∀ σ H Q, t' σ H Q → t σ H Q) : PT X e t' := ⟨fun pins s σ H Q I q => h.run pins s σ H Q I (w σ H Q q)⟩
theorem pa_weak {X : Cx} {e : List Expr} {t t' : L2.TA} (h : PA X e t) (w : ∀ σ H Q, t' σ H Q → t σ H Q) : PA X e t' := ⟨fun pos pins s σ H Q I q => h.run pos pins s σ H Q I (w σ H Q q)⟩
theorem ps_weak {X : Cx} {e : Stmt} {t t' : TS} (h : PS X e t) (w : ∀ D σ H, t' D σ H → t D σ H) : PS X e t' := ⟨fun pins s σ H D I q => h.run pins s σ H D I (w D σ H q)⟩
theorem pss_weak {X : Cx} {e : List Stmt} {t t' : TS} (h : PSs X e t) (w : ∀ D σ H, t' D σ H → t D σ H) : PSs X e t' := ⟨fun pins s σ H D I q => h.run pins s σ H D I (w D σ H q)⟩

/-- a value, or an owned object that is looked at -/
def BRep (Γ : Glo) (Hm : Hp) (i : List Addr) (H : Hp) (x : V) (d : D) : Prop := Rep Γ Hm i x d ∨ ∃ a o, x = .ref a ∧ H a = some o ∧ Con Γ Hm i a o d
inductive BReps (Γ : Glo) (Hm : Hp) (i : List Addr) (H : Hp) : List V → List D → Prop where
  | nil : BReps Γ Hm i H [] []
  | cons {x : V} {d : D} {xs : List V} {ds : List D} : BRep Γ Hm i H x d → BReps Γ Hm i H xs ds → BReps Γ Hm i H (x :: xs) (d :: ds)
/-- the heap has grown; the new frozen things are new -/
structure Grow (Hm H Hm' H' : Hp) : Prop where
  l : Le H H'
  lm : Le Hm Hm'
  sub : Le Hm' H'
  hn : ∀ a o, Hm' a = some o → Hm a = some o ∨ H a = none
section
variable {Γ : Glo} {G : Act} {σ : St} {KE : KEt} {Hm Hm' H H' : Hp} {i : List Addr} {r : List Sl} {m : List D}
theorem R.grown (x : R Γ G Hm i r m σ H) (g : Grow Hm H Hm' H') : R Γ G Hm' i r m σ H' := x.grow g.l g.lm g.sub g.hn
theorem Grow.go (g : Grow Hm H Hm' H') : Go Hm i Hm' i := ⟨g.lm, List.prefix_refl _⟩
theorem Grow.refl (s : Le Hm H) : Grow Hm H Hm H := ⟨Le.refl _, Le.refl _, s, fun _ _ h => .inl h⟩
theorem Grow.froz (s : Le Hm H) {a : Addr} (h : H a = none) (o : HO) : Grow Hm H (upd Hm a o) (upd H a o) :=
  ⟨le_upd h, le_upd (le_none s h), le_updd s, fun b u e => by
    by_cases hb : b = a
    · subst hb; exact .inr h
    · rw [upd_ne hb] at e; exact .inl e⟩
theorem Grow.trans {Hm2 H2 : Hp} (x : Grow Hm H Hm' H') (y : Grow Hm' H' Hm2 H2) : Grow Hm H Hm2 H2 :=
  ⟨x.l.trans y.l, x.lm.trans y.lm, y.sub, fun a o h => by
    rcases y.hn a o h with z | z
    · exact x.hn a o z
    · exact .inr (le_none x.l z)⟩
/-- what is new to the heap is new to the frame -/
theorem R.newAt (x : R Γ G Hm i r m σ H) (gr : Grow Hm H Hm' H') {a : Addr} {o : HO} {d : D} (ha : H' a = some o) (hn : H a = none) (hm : Hm' a = none) (c : Con Γ Hm' i a o d) : NewAt Γ G Hm' i r σ H' a o d :=
  ⟨ha, hm, (x.free hn).2.1, (x.free hn).2.2, c, fun n e hr hs => by
    obtain ⟨b, u, h1, h2, _⟩ := x.own n e hr
    rw [hs] at h1; cases h1
    rw [hn] at h2; cases h2⟩
theorem OpRep.look (x : R Γ G Hm i r m σ H) {v : V} {o : Op} (h : OpRep Γ Hm i σ v o) {d : D} (e : opD r o = some d) : BRep Γ Hm i H v d := by
  cases h with
  | d h => cases e; exact .inl h
  | b h =>
    rename_i n
    have e : (match r[n]? with | some (Sl.v d) => some d | some (Sl.o d) => some d | _ => Option.none) = some d := e
    cases q : r[n]? with
    | none => rw [q] at e; cases e
    | some s =>
      rw [q] at e
      cases s with
      | un => cases e
      | v d' =>
        cases e
        obtain ⟨y, h1, h2⟩ := x.val n d q
        rw [h] at h1; cases h1
        exact .inl h2
      | o d' =>
        cases e
        obtain ⟨a, ob, h1, h2, _, _, _, h3⟩ := x.own n d q
        rw [h] at h1; cases h1
        exact .inr ⟨a, ob, rfl, h2, h3⟩
theorem OpsRep.look (x : R Γ G Hm i r m σ H) : ∀ {vs : List V} {os : List Op} {ds : List D}, OpsRep Γ Hm i σ vs os → opsD r os = some ds → BReps Γ Hm i H vs ds
  | _, _, _, .nil, e => by cases e; exact .nil
  | _, _, _, .cons (o := o) (os := os) h t, e => by
    unfold opsD at e
    cases e1 : opD r o with
    | none => rw [e1] at e; cases e
    | some d =>
      cases e2 : opsD r os with
      | none => rw [e1, e2] at e; cases e
      | some ds =>
        rw [e1, e2] at e; cases e
        exact .cons (h.look x e1) (OpsRep.look x t e2)
theorem OpsRep.go {Hm' : Hp} {i' : List Addr} (g : Go Hm i Hm' i') : ∀ {vs : List V} {os : List Op}, OpsRep Γ Hm i σ vs os → OpsRep Γ Hm' i' σ vs os
  | _, _, .nil => .nil
  | _, _, .cons h t => .cons (h.go g) (OpsRep.go g t)

/-- atoms -/
theorem BRep.int {v : V} {n : Int} (h : BRep Γ Hm i H v (.int n)) : v = .int n := by
  rcases h with h | ⟨a, o, _, _, h⟩
  · cases h; rfl
  · cases h
theorem BRep.bl {v : V} {b : Bool} (h : BRep Γ Hm i H v (.bl b)) : v = .bl b := by
  rcases h with h | ⟨a, o, _, _, h⟩
  · cases h; rfl
  · cases h
theorem BRep.str {v : V} {x : Str} (h : BRep Γ Hm i H v (.str x)) : v = .str x := by
  rcases h with h | ⟨a, o, _, _, h⟩
  · cases h; rfl
  · cases h
theorem BRep.non {v : V} (h : BRep Γ Hm i H v .non) : v = .non := by
  rcases h with h | ⟨a, o, _, _, h⟩
  · cases h; rfl
  · cases h
theorem BRep.tup {v : V} {ds : List D} (s : Le Hm H) (h : BRep Γ Hm i H v (.tup ds)) : ∃ a xs, v = .ref a ∧ SqT Γ.K H a xs ∧ SqT Γ.K Hm a xs ∧ Reps Γ Hm i xs ds := by
  rcases h with h | ⟨a, o, _, _, h⟩
  · cases h with
    | tup h1 h2 => exact ⟨_, _, rfl, SqT.le s h1, h1, h2⟩
  · cases h
theorem BRep.lst {v : V} {ds : List D} (s : Le Hm H) (h : BRep Γ Hm i H v (.lst ds)) : ∃ a xs, v = .ref a ∧ SqL Γ.K H a xs ∧ Reps Γ Hm i xs ds := by
  rcases h with h | ⟨a, o, e, ha, h⟩
  · cases h with
    | lst h1 h2 => exact ⟨_, _, rfl, SqL.le s h1, h2⟩
  · cases h with
    | lst r => exact ⟨a, _, e, SqL.of ha, r⟩
/-- a row's items: a tuple, a list, a location -/
theorem BRep.seq (x : R Γ G Hm i r m σ H) {v : V} {d : D} {ds : List D} (h : BRep Γ Hm i H v d) (e : seqOf m d = some ds) :
    ∃ a xs, v = .ref a ∧ Reps Γ Hm i xs ds ∧ ((SqT Γ.K H a xs ∧ d = .tup ds) ∨ (SqL Γ.K H a xs ∧ ∀ es, d ≠ .tup es)) := by
  cases d with
  | tup es =>
    cases e
    obtain ⟨a, xs, h1, h2, _, h3⟩ := h.tup x.sub
    exact ⟨a, xs, h1, h3, .inl ⟨h2, rfl⟩⟩
  | lst es =>
    cases e
    obtain ⟨a, xs, h1, h2, h3⟩ := h.lst x.sub
    exact ⟨a, xs, h1, h3, .inr ⟨h2, fun _ z => nomatch z⟩⟩
  | loc n =>
    rcases h with h | ⟨a, o, _, _, h⟩
    · cases h with
      | loc h1 =>
        have e : (match m[n]? with | some (D.lst xs) => some xs | _ => Option.none) = some ds := e
        cases q : m[n]? with
        | none => rw [q] at e; cases e
        | some u =>
          rw [q] at e
          cases u <;> first | (cases e; done) | skip
          cases e
          obtain ⟨a, o, h2, h3, _, h4⟩ := x.loc n _ q
          rw [h1] at h2; cases h2
          cases h4 with
          | lst r => exact ⟨_, _, rfl, r,   .inr ⟨SqL.of h3, fun _ z => nomatch z⟩⟩
    · cases h
  | non => cases e
  | bl _ => cases e
  | int _ => cases e
  | str _ => cases e
  | dct _ _ => cases e
  | ins _ _ _ => cases e
end

/-! ### operations, by what they do to the abstract heap -/
/-- the value is made: frozen -/
def FK (Γ : Glo) (Hm : Hp) (i : List Addr) (H : Hp) (d : D) (Q : VK) : Prop := ∀ v Hm' H', Grow Hm H Hm' H' → Rep Γ Hm' i v d → Q v H'
/-- .. a new container -/
def FN (Γ : Glo) (Hm : Hp) (i : List Addr) (H : Hp) (d : D) (Q : VK) : Prop := ∀ a o Hm' H', Grow Hm H Hm' H' → H' a = some o → H a = none → Hm' a = none → Con Γ Hm' i a o d → Q (.ref a) H'
theorem FK.n {Γ : Glo} {Hm : Hp} {i : List Addr} {H : Hp} {d : D} {Q : VK} (h : FK Γ Hm i H d Q) : FN Γ Hm i H d Q := fun a o Hm' H' g ha hn hm c => by
  refine h (.ref a) (upd Hm' a o) H' ⟨g.l, g.lm.trans (le_upd hm), fun b u e => ?_, fun b u e => ?_⟩ (c.freeze hm)
  · by_cases hb : b = a
    · subst hb; rw [upd_same] at e; cases e; exact ha
    · rw [upd_ne hb] at e; exact g.sub b u e
  · by_cases hb : b = a
    · subst hb; exact .inr hn
    · rw [upd_ne hb] at e; exact g.hn b u e
/-- r reads the operation f: of frozen results; of new containers -/
def Rd2 (Γ : Glo) (f : Bi) (r : R2) : Prop := ∀ (G : Act) (Hm : Hp) (i : List Addr) (rr : List Sl) (m : List D) (σ : St) (H : Hp) (x y : V) (a b d : D) (Q : VK), R Γ G Hm i rr m σ H → BRep Γ Hm i H x a → BRep Γ Hm i H y b → biEval m f [a, b] = some d → FK Γ Hm i H d Q → r x y H Q
def Rd2N (Γ : Glo) (f : Bi) (r : R2) : Prop := ∀ (G : Act) (Hm : Hp) (i : List Addr) (rr : List Sl) (m : List D) (σ : St) (H : Hp) (x y : V) (a b d : D) (Q : VK), R Γ G Hm i rr m σ H → BRep Γ Hm i H x a → BRep Γ Hm i H y b → biEval m f [a, b] = some d → isCont d = true → FN Γ Hm i H d Q → r x y H Q
def Rd1 (Γ : Glo) (f : Bi) (r : V → Hp → VK → Prop) : Prop := ∀ (G : Act) (Hm : Hp) (i : List Addr) (rr : List Sl) (m : List D) (σ : St) (H : Hp) (x : V) (a d : D) (Q : VK), R Γ G Hm i rr m σ H → BRep Γ Hm i H x a → biEval m f [a] = some d → FK Γ Hm i H d Q → r x H Q
def RdL (Γ : Glo) (f : Bi) (r : List V → Hp → VK → Prop) : Prop := ∀ (G : Act) (Hm : Hp) (i : List Addr) (rr : List Sl) (m : List D) (σ : St) (H : Hp) (xs : List V) (ds : List D) (d : D) (Q : VK), R Γ G Hm i rr m σ H → BReps Γ Hm i H xs ds → biEval m f ds = some d → FK Γ Hm i H d Q → r xs H Q
def RdLN (Γ : Glo) (f : Bi) (r : List V → Hp → VK → Prop) : Prop := ∀ (G : Act) (Hm : Hp) (i : List Addr) (rr : List Sl) (m : List D) (σ : St) (H : Hp) (xs : List V) (ds : List D) (d : D) (Q : VK), R Γ G Hm i rr m σ H → BReps Γ Hm i H xs ds → biEval m f ds = some d → isCont d = true → FN Γ Hm i H d Q → r xs H Q
theorem FK.at {Γ : Glo} {G : Act} {Hm : Hp} {i : List Addr} {r : List Sl} {m : List D} {σ : St} {H : Hp} {d : D} {Q : VK} (h : FK Γ Hm i H d Q) (x : R Γ G Hm i r m σ H) {v : V} (q : Rep Γ Hm i v d) : Q v H := h v Hm H (Grow.refl x.sub) q

section
variable {X : Cx} {Γ : Glo} {G : Act} {KE : KEt} {C : Nat → List D → List D → CO} {ini : Str → Option Nat}
theorem ev_bi2 (f : Bi) (a b : A) (r : List Sl) (m : List D) : evE C ini (.bi f [a, b]) r m = (evA C ini a r m).bind fun o r m => (evA C ini b r m).bind fun p r m => match opsD r [o, p] with
    | none => .bad
    | some ds => lift (biEval m f ds) r m := by
  simp only [evE, evAs]
  cases evA C ini a r m with
  | ok o r m => 
    simp only [O.bind]
    cases evA C ini b r m with
    | ok p r m => rfl
    | ex x r m => rfl
    | bad => rfl
  | ex x r m => rfl
  | bad => rfl
theorem ev_bi1 (f : Bi) (a : A) (r : List Sl) (m : List D) : evE C ini (.bi f [a]) r m = (evA C ini a r m).bind fun o r m => match opsD r [o] with
    | none => .bad
    | some ds => lift (biEval m f ds) r m := by
  simp only [evE, evAs]
  cases evA C ini a r m with
  | ok o r m => rfl
  | ex x r m => rfl
  | bad => rfl
theorem two {r : List Sl} {o p : Op} {ds : List D} (h : opsD r [o, p] = some ds) : ∃ a b, ds = [a, b] ∧ opD r o = some a ∧ opD r p = some b := by
  unfold opsD at h
  cases e1 : opD r o with
  | none => rw [e1] at h; cases h
  | some a =>
    unfold opsD at h
    cases e2 : opD r p with
    | none => rw [e1, e2] at h; cases h
    | some b =>
      rw [e1, e2] at h; unfold opsD at h; cases h
      exact ⟨a, b, rfl, rfl, rfl⟩
theorem one {r : List Sl} {o : Op} {ds : List D} (h : opsD r [o] = some ds) : ∃ a, ds = [a] ∧ opD r o = some a := by
  unfold opsD at h
  cases e1 : opD r o with
  | none => rw [e1] at h; cases h
  | some a => rw [e1] at h; unfold opsD at h; cases h; exact ⟨a, rfl, rfl⟩
/-- THE STEP for two operands -/
theorem tm_bi2 {f : Bi} {a b : A} {rr : R2} (hr : Rd2 Γ f rr) : ∀ σ H Q, TM Γ KE (evE C ini (.bi f [a, b])) σ H Q → tOp rr (TO Γ KE (evA C ini a)) (TO Γ KE (evA C ini b)) σ H Q := by
  rintro σ H Q ⟨G, Hm, i, r, m, x, h⟩
  rw [ev_bi2] at h
  refine ⟨G, Hm, i, r, m, x, h.bind.imp fun o r1 m1 Hm1 i1 H1 _ x1 h1 v rv => ?_⟩
  refine ⟨G, Hm1, i1, r1, m1, x1, h1.bind.imp fun p r2 m2 Hm2 i2 H2 g2 x2 h2 u ru => ?_⟩
  cases e : opsD r2 [o, p] with
  | none => rw [e] at h2; exact h2.elim
  | some ds =>
    obtain ⟨a', b', rfl, ea, eb⟩ := two e
    rw [e] at h2
    dsimp only at h2
    cases e3 : biEval m2 f [a', b'] with
    | none => rw [e3] at h2; exact h2.elim
    | some d =>
      rw [e3] at h2
      refine hr G Hm2 i2 r2 m2 σ H2 v u a' b' d Q x2 ((rv.go g2).look x2 ea) (ru.look x2 eb) e3 fun w Hm' H' gr rw' => ?_
      exact h2 Hm' i2 H' gr.go (x2.grown gr) w rw'
theorem cont_bind {α : Type} {Γ : Glo} {G : Act} {σ : St} {KE : KEt} {Hm : Hp} {i : List Addr} {o : O α} {f : α → List Sl → List D → O D} {K : D → List Sl → List D → Hp → List Addr → Hp → Prop} (h : After Γ G σ KE Hm i (contO (o.bind f)) K) :
    After Γ G σ KE Hm i (o.bind fun a r m => contO (f a r m)) K := by
  cases o <;> exact h
theorem cont_ok {Γ : Glo} {G : Act} {σ : St} {KE : KEt} {Hm : Hp} {i : List Addr} {d : D} {r : List Sl} {m : List D} {K : D → List Sl → List D → Hp → List Addr → Hp → Prop} (h : After Γ G σ KE Hm i (contO (.ok d r m)) K) :
    isCont d = true ∧ After Γ G σ KE Hm i (.ok d r m) K := by
  unfold contO O.bind at h
  by_cases hc : isCont d = true
  · simp only [hc, if_true] at h; exact ⟨hc, h⟩
  · simp only [hc] at h; exact h.elim
theorem tn_bi2 {f : Bi} {a b : A} {rr : R2} (hr : Rd2N Γ f rr) : ∀ σ H Q, TN Γ KE (evE C ini (.bi f [a, b])) σ H Q → tOp rr (TO Γ KE (evA C ini a)) (TO Γ KE (evA C ini b)) σ H Q := by
  rintro σ H Q ⟨G, Hm, i, r, m, x, h⟩
  rw [ev_bi2] at h
  refine ⟨G, Hm, i, r, m, x, (cont_bind h).bind.imp fun o r1 m1 Hm1 i1 H1 _ x1 h1 v rv => ?_⟩
  refine ⟨G, Hm1, i1, r1, m1, x1, (cont_bind h1).bind.imp fun p r2 m2 Hm2 i2 H2 g2 x2 h2 u ru => ?_⟩
  cases e : opsD r2 [o, p] with
  | none => rw [e] at h2; exact h2.elim
  | some ds =>
    obtain ⟨a', b', rfl, ea, eb⟩ := two e
    rw [e] at h2
    dsimp only at h2
    cases e3 : biEval m2 f [a', b'] with
    | none => rw [e3] at h2; exact h2.elim
    | some d =>
      rw [e3] at h2
      obtain ⟨hc, h2⟩ := cont_ok h2
      refine hr G Hm2 i2 r2 m2 σ H2 v u a' b' d Q x2 ((rv.go g2).look x2 ea) (ru.look x2 eb) e3 hc fun a o Hm' H' gr ha hn hm c => ?_
      exact h2 Hm' i2 H' gr.go (x2.grown gr) a o (x2.newAt gr ha hn hm c)
end
end Mi
end
section
set_option maxRecDepth 100000
/-! Mi: names, constants, tests, displays, operands. -/
namespace Mi
open PySem L2
section
variable {X : Cx} {Γ : Glo} {G : Act} {KE : KEt} {C : Nat → List D → List D → CO} {ini : Str → Option Nat} {pos : Pos}

def noStar (e : Expr) : Bool := match e with | .Starred _ _ => false | _ => true
theorem star_cons {e : Expr} {es : List Expr} {env : Env} (h : noStar e = true) : starEach (e :: es) env = (false, eval e env) :: starEach es env := by
  cases e <;> first | rfl | (simp [noStar] at h)

/-! ### results that are there -/
theorem tm_ret {ev : List Sl → List D → O D} {d : D} {v : V} (he : ∀ r m, ev r m = .ok d r m) (hv : ∀ Hm i, Rep Γ Hm i v d) : ∀ σ H Q, TM Γ KE ev σ H Q → tC v σ H Q := by
  rintro σ H Q ⟨G, Hm, i, r, m, x, h⟩
  rw [he] at h
  exact h.here x v (hv _ _)
theorem e_int {n : Int} {j : Nat} : PE X (.Constant (.int n) j pos) (TM Γ KE (evE C ini (.k (.int n)))) := pe_weak pe_int (tm_ret (fun _ _ => by rw [evE]) fun _ _ => .int n)
theorem e_bl {b : Bool} {j : Nat} : PE X (.Constant (.bool b) j pos) (TM Γ KE (evE C ini (.k (.bl b)))) := pe_weak pe_bl (tm_ret (fun _ _ => by rw [evE]) fun _ _ => .bl b)
theorem e_non {j : Nat} : PE X (.Constant .none j pos) (TM Γ KE (evE C ini (.k .non))) := pe_weak pe_non (tm_ret (fun _ _ => by rw [evE]) fun _ _ => .non)
theorem e_str {x : Str} {j : Nat} : PE X (.Constant (.str x) j pos) (TM Γ KE (evE C ini (.k (.str x)))) := pe_weak pe_str (tm_ret (fun _ _ => by rw [evE]) fun _ _ => .str x)
/-- a module's constant -/
theorem e_gl {x : Str} {d : D} {v : V} {u : Value} (hg : Gl X x) (hm : X.mg x = some u) (r : RelV v u) (hv : ∀ Hm i, Rep Γ Hm i v d) (hd : (x == ("__debug__" : Str)) = false) : PE X (.Name x pos) (TM Γ KE (evE C ini (.gl x d))) :=
  pe_weak (pe_glob hg hm r hd) (tm_ret (fun _ _ => by rw [evE]) hv)
/-- a slot's value -/
theorem e_v {n : Nat} {x : Str} (hN : X.N[n]? = some x) (hv : Vis X.env.scope x) (hd : (x == ("__debug__" : Str)) = false) (hc : (x == ("__classdict__" : Str)) = false) : PE X (.Name x pos) (TM Γ KE (evE C ini (.v n))) := by
  refine pe_weak (pe_var hN hv hd hc) ?_
  rintro σ H Q ⟨G, Hm, i, r, m, x, h⟩
  rw [evE] at h
  cases e : slotV r n with
  | none => rw [e] at h; exact h.elim
  | some d =>
    rw [e] at h
    have h := h.here x
    unfold slotV at e
    split at e
    · cases e
      obtain ⟨v, h1, h2⟩ := x.val n d (by assumption)
      exact ⟨v, h1, h v h2⟩
    · cases e
/-- operands -/
theorem o_e {e : Expr} {m : E} (h : PE X e (TM Γ KE (evE C ini m))) : PE X e (TO Γ KE (evA C ini (.e m))) := by
  refine pe_weak h ?_
  rintro σ H Q ⟨G, Hm, i, r, m, x, h⟩
  rw [evA] at h
  refine ⟨G, Hm, i, r, m, x, h.bind.imp fun d r' m' Hm' i' H' _ x' h' v rv => h'.here x' v (.d rv)⟩
theorem o_b {n : Nat} {x : Str} (hN : X.N[n]? = some x) (hv : Vis X.env.scope x) (hd : (x == ("__debug__" : Str)) = false) (hc : (x == ("__classdict__" : Str)) = false) : PE X (.Name x pos) (TO Γ KE (evA C ini (.b n))) := by
  refine pe_weak (pe_var hN hv hd hc) ?_
  rintro σ H Q ⟨G, Hm, i, r, m, x, h⟩
  rw [evA] at h
  cases e : slotD r n with
  | none => rw [e] at h; exact h.elim
  | some d =>
    rw [e] at h
    have h := h.here x
    unfold slotD at e
    split at e
    · cases e
      obtain ⟨v, h1, _⟩ := x.val n d (by assumption)
      exact ⟨v, h1, h v (.b h1)⟩
    · cases e
      obtain ⟨a, o, h1, _⟩ := x.own n d (by assumption)
      exact ⟨_, h1, h _ (.b h1)⟩
    · cases e

/-! ### argument lists -/
theorem a_nil : PA X [] (TA Γ KE (evEs C ini [])) := by
  refine pa_weak pa_nil ?_
  rintro σ H Q ⟨G, Hm, i, r, m, x, h⟩
  rw [evEs] at h
  exact h.here x [] .nil
theorem a_cons {e : Expr} {es : List Expr} {m : E} {ms : List E} (h1 : PE X e (TM Γ KE (evE C ini m))) (h2 : PA X es (TA Γ KE (evEs C ini ms))) (hs : noStar e = true) :
    PA X (e :: es) (TA Γ KE (evEs C ini (m :: ms))) := by
  refine pa_weak (pa_cons h1 h2 (star_cons hs)) ?_
  rintro σ H Q ⟨G, Hm, i, r, m, x, h⟩
  rw [evEs] at h
  refine ⟨G, Hm, i, r, m, x, h.bind.imp fun d r1 m1 Hm1 i1 H1 _ x1 k1 v rv => ?_⟩
  refine ⟨G, Hm1, i1, r1, m1, x1, k1.bind.imp fun ds r2 m2 Hm2 i2 H2 g2 x2 k2 vs rvs => ?_⟩
  exact k2.here x2 (v :: vs) (.cons (rv.go g2) rvs)
theorem ao_nil : PA X [] (TAo Γ KE (evAs C ini [])) := by
  refine pa_weak pa_nil ?_
  rintro σ H Q ⟨G, Hm, i, r, m, x, h⟩
  rw [evAs] at h
  exact h.here x [] .nil
theorem ao_cons {e : Expr} {es : List Expr} {m : A} {ms : List A} (h1 : PE X e (TO Γ KE (evA C ini m))) (h2 : PA X es (TAo Γ KE (evAs C ini ms))) (hs : noStar e = true) :
    PA X (e :: es) (TAo Γ KE (evAs C ini (m :: ms))) := by
  refine pa_weak (pa_cons h1 h2 (star_cons hs)) ?_
  rintro σ H Q ⟨G, Hm, i, r, m, x, h⟩
  rw [evAs] at h
  refine ⟨G, Hm, i, r, m, x, h.bind.imp fun d r1 m1 Hm1 i1 H1 _ x1 k1 v rv => ?_⟩
  refine ⟨G, Hm1, i1, r1, m1, x1, k1.bind.imp fun ds r2 m2 Hm2 i2 H2 g2 x2 k2 vs rvs => ?_⟩
  exact k2.here x2 (v :: vs) (.cons (rv.go g2) rvs)

/-! ### displays -/
theorem freeze_fk {Hm : Hp} {i : List Addr} {H : Hp} {d : D} {Q : VK} {r : List Sl} {m : List D} {σ : St} (x : R Γ G Hm i r m σ H) {a : Addr} {o : HO} (hn : H a = none) (c : Con Γ Hm i a o d) (h : FK Γ Hm i H d Q) : Q (.ref a) (upd H a o) :=
  h (.ref a) (upd Hm a o) (upd H a o) (Grow.froz x.sub hn o) (c.freeze (le_none x.sub hn))
theorem evEs_len : ∀ (es : List E) (r : List Sl) (m : List D) {ds : List D} {r' : List Sl} {m' : List D}, evEs C ini es r m = .ok ds r' m' → ds.length = es.length := by
  intro es
  induction es with
  | nil => intro r m ds r' m' h; rw [evEs] at h; cases h; rfl
  | cons e es ih =>
    intro r m ds r' m' h
    rw [evEs] at h
    cases e1 : evE C ini e r m with
    | ok d r1 m1 =>
      rw [e1] at h
      simp only [O.bind] at h
      cases e2 : evEs C ini es r1 m1 with
      | ok ds2 r2 m2 =>
        rw [e2] at h
        cases h
        simp [ih _ _ e2]
      | ex _ _ _ => rw [e2] at h; cases h
      | bad => rw [e2] at h; cases h
    | ex _ _ _ => rw [e1] at h; cases h
    | bad => rw [e1] at h; cases h
theorem After.ev {α : Type} {o : O α} {σ : St} {Hm : Hp} {i : List Addr} {K : α → List Sl → List D → Hp → List Addr → Hp → Prop} (h : After Γ G σ KE Hm i o K) : After Γ G σ KE Hm i o fun a r m Hm' i' H' => o = .ok a r m ∧ K a r m Hm' i' H' := by
  cases o with
  | ok a r m => exact fun Hm' i' H' g x => ⟨rfl, h Hm' i' H' g x⟩
  | ex x r m => exact h
  | bad => exact h
theorem le_line {n : Nat} (h : n ≤ 1000000) : n ≤ sizeLine := Nat.le_trans h (by decide)
theorem e_tup {es : List Expr} {ms : List E} {k : Nat} (h : PA X es (TA Γ KE (evEs C ini ms))) (hl : ms.length ≤ 1000) : PE X (.Tuple es k pos) (TM Γ KE (evE C ini (.tup ms))) := by
  refine pe_weak (pe_tup h) ?_
  rintro σ H Q ⟨G, Hm, i, r, m, x, h⟩
  rw [evE] at h
  refine ⟨G, Hm, i, r, m, x, h.bind.ev.imp fun ds r1 m1 Hm1 i1 H1 _ x1 ⟨he, k1⟩ vs rvs => ?_⟩
  have e1 := rvs.length
  have e2 := evEs_len ms r m he
  refine ⟨le_line (by omega), fun p hp => ?_⟩
  have hm := (x1.free hp).1
  exact k1 _ _ _ (Go.froz hm _) (x1.froz hp (.tup vs)) (.ref p) (.tup (SqT.of upd_same) (rvs.go (Go.froz hm _)))
theorem e_lst {es : List Expr} {ms : List E} (h : PA X es (TA Γ KE (evEs C ini ms))) (hl : ms.length ≤ 1000) : PE X (.List es pos) (TM Γ KE (evE C ini (.lst ms))) := by
  refine pe_weak (pe_lst h) ?_
  rintro σ H Q ⟨G, Hm, i, r, m, x, h⟩
  rw [evE] at h
  refine ⟨G, Hm, i, r, m, x, h.bind.ev.imp fun ds r1 m1 Hm1 i1 H1 _ x1 ⟨he, k1⟩ vs rvs => ?_⟩
  have e1 := rvs.length
  have e2 := evEs_len ms r m he
  refine ⟨le_line (by omega), fun p hp => ?_⟩
  have hm := (x1.free hp).1
  exact k1 _ _ _ (Go.froz hm _) (x1.froz hp (.lst vs)) (.ref p) (.lst (SqL.of upd_same) (rvs.go (Go.froz hm _)))
/-- .. as a new container -/
theorem n_lst {es : List Expr} {ms : List E} (h : PA X es (TA Γ KE (evEs C ini ms))) (hl : ms.length ≤ 1000) : PE X (.List es pos) (TN Γ KE (evE C ini (.lst ms))) := by
  refine pe_weak (pe_lst h) ?_
  rintro σ H Q ⟨G, Hm, i, r, m, x, h⟩
  rw [evE] at h
  refine ⟨G, Hm, i, r, m, x, (cont_bind h).bind.ev.imp fun ds r1 m1 Hm1 i1 H1 _ x1 ⟨he, k1⟩ vs rvs => ?_⟩
  have e1 := rvs.length
  have e2 := evEs_len ms r m he
  refine ⟨le_line (by omega), fun p hp => ?_⟩
  obtain ⟨_, k1⟩ := cont_ok k1
  have gr : Grow Hm1 H1 Hm1 (upd H1 p (.lst vs)) := ⟨le_upd hp, Le.refl _, x1.sub.trans (le_upd hp), fun _ _ h => .inl h⟩
  exact k1 _ _ _ (Go.refl _ _) (x1.loose hp (.lst vs)) p _ (x1.newAt gr upd_same hp (x1.free hp).1 (.lst rvs))

/-! ### tests -/
/-- a value as a test -/
def evT (ev : List Sl → List D → O D) (r : List Sl) (m : List D) : O Bool := (ev r m).bind fun d r m => match truth d with
  | some b => .ok b r m
  | none => .bad
theorem t_val {e : Expr} {m : E} (h : PE X e (TM Γ KE (evE C ini m))) (he : ∀ whole, isTrue e X.env whole = (do let v ← whole; standAt e.pos; holding [v] (truthy v))) : PT X e (TB Γ KE (evT (evE C ini m))) := by
  refine pt_weak (pt_val h he) ?_
  rintro σ H Q ⟨G, Hm, i, r, m, x, h⟩
  refine ⟨G, Hm, i, r, m, x, h.bind.imp fun d r1 m1 Hm1 i1 H1 _ x1 k1 v rv => ?_⟩
  cases d with
  | bl b => cases rv; exact ⟨b, rfl, k1.here x1⟩
  | _ => exact k1.elim
/-- and, or: as tests -/
theorem ev_and1 (e : E) (es : List E) (r : List Sl) (m : List D) : evAnd C ini (e :: es) r m = (evT (evE C ini e) r m).bind fun b r m => if b = true then evAnd C ini es r m else .ok false r m := by
  rw [evAnd]
  unfold evT
  cases evE C ini e r m with
  | ok d r m =>
    simp only [O.bind]
    cases d with
    | bl b => cases b <;> rfl
    | _ => rfl
  | ex _ _ _ => rfl
  | bad => rfl
theorem ev_or1 (e : E) (es : List E) (r : List Sl) (m : List D) : evOr C ini (e :: es) r m = (evT (evE C ini e) r m).bind fun b r m => if b = true then .ok true r m else evOr C ini es r m := by
  rw [evOr]
  unfold evT
  cases evE C ini e r m with
  | ok d r m =>
    simp only [O.bind]
    cases d with
    | bl b => cases b <;> rfl
    | _ => rfl
  | ex _ _ _ => rfl
  | bad => rfl
theorem w_and1 {e : Expr} {m : E} (h : PT X e (TB Γ KE (evT (evE C ini m)))) : PW X (.BoolOp .And [e] pos) (TB Γ KE (evAnd C ini [m])) := by
  refine ⟨fun wh pins s σ H Q I q => (pw_and1 h).run wh pins s σ H Q I ?_⟩
  obtain ⟨G, Hm, i, r, m', x, q⟩ := q
  rw [ev_and1] at q
  refine ⟨G, Hm, i, r, m', x, q.bind.imp fun b r1 m1 Hm1 i1 H1 _ x1 k1 => ?_⟩
  cases b with
  | true => rw [if_pos rfl, evAnd] at k1; exact k1.here x1
  | false => rw [if_neg Bool.false_ne_true] at k1; exact k1.here x1
theorem w_or1 {e : Expr} {m : E} (h : PT X e (TB Γ KE (evT (evE C ini m)))) : PW X (.BoolOp .Or [e] pos) (TB Γ KE (evOr C ini [m])) := by
  refine ⟨fun wh pins s σ H Q I q => (pw_or1 h).run wh pins s σ H Q I ?_⟩
  obtain ⟨G, Hm, i, r, m', x, q⟩ := q
  rw [ev_or1] at q
  refine ⟨G, Hm, i, r, m', x, q.bind.imp fun b r1 m1 Hm1 i1 H1 _ x1 k1 => ?_⟩
  cases b with
  | true => rw [if_pos rfl] at k1; exact k1.here x1
  | false => rw [if_neg Bool.false_ne_true, evOr] at k1; exact k1.here x1
theorem w_and {e e' : Expr} {es : List Expr} {m m' : E} {ms : List E} (h : PT X e (TB Γ KE (evT (evE C ini m)))) (h2 : PW X (.BoolOp .And (e' :: es) pos) (TB Γ KE (evAnd C ini (m' :: ms)))) :
    PW X (.BoolOp .And (e :: e' :: es) pos) (TB Γ KE (evAnd C ini (m :: m' :: ms))) := by
  refine ⟨fun wh pins s σ H Q I q => (pw_and h h2).run wh pins s σ H Q I ?_⟩
  obtain ⟨G, Hm, i, r, m1, x, q⟩ := q
  rw [ev_and1] at q
  refine ⟨G, Hm, i, r, m1, x, q.bind.imp fun b r1 m1 Hm1 i1 H1 _ x1 k1 => ?_⟩
  cases b with
  | true => rw [if_pos rfl] at k1 ⊢; exact ⟨G, Hm1, i1, r1, m1, x1, k1⟩
  | false => rw [if_neg Bool.false_ne_true] at k1 ⊢; exact k1.here x1
theorem w_or {e e' : Expr} {es : List Expr} {m m' : E} {ms : List E} (h : PT X e (TB Γ KE (evT (evE C ini m)))) (h2 : PW X (.BoolOp .Or (e' :: es) pos) (TB Γ KE (evOr C ini (m' :: ms)))) :
    PW X (.BoolOp .Or (e :: e' :: es) pos) (TB Γ KE (evOr C ini (m :: m' :: ms))) := by
  refine ⟨fun wh pins s σ H Q I q => (pw_or h h2).run wh pins s σ H Q I ?_⟩
  obtain ⟨G, Hm, i, r, m1, x, q⟩ := q
  rw [ev_or1] at q
  refine ⟨G, Hm, i, r, m1, x, q.bind.imp fun b r1 m1 Hm1 i1 H1 _ x1 k1 => ?_⟩
  cases b with
  | true => rw [if_pos rfl] at k1 ⊢; exact k1.here x1
  | false => rw [if_neg Bool.false_ne_true] at k1 ⊢; exact ⟨G, Hm1, i1, r1, m1, x1, k1⟩
/-- a test of evAnd is the test of the value .and -/
theorem tb_and {ms : List E} : ∀ σ H Q, TB Γ KE (evT (evE C ini (.and ms))) σ H Q → TB Γ KE (evAnd C ini ms) σ H Q := by
  rintro σ H Q ⟨G, Hm, i, r, m, x, h⟩
  refine ⟨G, Hm, i, r, m, x, ?_⟩
  unfold evT at h
  rw [evE] at h
  cases e : evAnd C ini ms r m with
  | ok b r1 m1 => rw [e] at h; exact h
  | ex _ _ _ => rw [e] at h; exact h
  | bad => rw [e] at h; exact h
theorem tb_or {ms : List E} : ∀ σ H Q, TB Γ KE (evT (evE C ini (.or ms))) σ H Q → TB Γ KE (evOr C ini ms) σ H Q := by
  rintro σ H Q ⟨G, Hm, i, r, m, x, h⟩
  refine ⟨G, Hm, i, r, m, x, ?_⟩
  unfold evT at h
  rw [evE] at h
  cases e : evOr C ini ms r m with
  | ok b r1 m1 => rw [e] at h; exact h
  | ex _ _ _ => rw [e] at h; exact h
  | bad => rw [e] at h; exact h
theorem t_and {e : Expr} {ms : List E} (h : PW X e (TB Γ KE (evAnd C ini ms))) : PT X e (TB Γ KE (evT (evE C ini (.and ms)))) := pt_weak h.pt tb_and
theorem t_or {e : Expr} {ms : List E} (h : PW X e (TB Γ KE (evOr C ini ms))) : PT X e (TB Γ KE (evT (evE C ini (.or ms)))) := pt_weak h.pt tb_or
theorem t_not {e : Expr} {m : E} (h : PT X e (TB Γ KE (evT (evE C ini m)))) : PT X (.UnaryOp .Not e pos) (TB Γ KE (evT (evE C ini (.not m)))) := by
  refine pt_weak (pt_not h) ?_
  rintro σ H Q ⟨G, Hm, i, r, m1, x, h⟩
  refine ⟨G, Hm, i, r, m1, x, ?_⟩
  unfold evT at h ⊢
  rw [evE] at h
  cases e : evE C ini m r m1 with
  | ok d r1 m1 =>
    rw [e] at h
    cases d with
    | bl b => exact h
    | _ => exact h.elim
  | ex _ _ _ => rw [e] at h; exact h
  | bad => rw [e] at h; exact h
/-- .. as values -/
theorem v_and1 {e : Expr} {m : E} (h : PE X e (TM Γ KE (evE C ini m))) : PE X (.BoolOp .And [e] pos) (TM Γ KE (evE C ini (.and [m]))) := by
  refine pe_weak (pe_one h) ?_
  rintro σ H Q ⟨G, Hm, i, r, m1, x, h⟩
  refine ⟨G, Hm, i, r, m1, x, ?_⟩
  rw [evE, ev_and1] at h
  unfold evT at h
  cases e : evE C ini m r m1 with
  | ok d r1 m1 =>
    rw [e] at h
    cases d with
    | bl b => cases b <;> (simp only [O.bind, truth, evAnd] at h; exact h)
    | _ => exact h.elim
  | ex _ _ _ => rw [e] at h; exact h
  | bad => rw [e] at h; exact h
theorem v_or1 {e : Expr} {m : E} (h : PE X e (TM Γ KE (evE C ini m))) : PE X (.BoolOp .Or [e] pos) (TM Γ KE (evE C ini (.or [m]))) := by
  refine pe_weak (pe_one h) ?_
  rintro σ H Q ⟨G, Hm, i, r, m1, x, h⟩
  refine ⟨G, Hm, i, r, m1, x, ?_⟩
  rw [evE, ev_or1] at h
  unfold evT at h
  cases e : evE C ini m r m1 with
  | ok d r1 m1 =>
    rw [e] at h
    cases d with
    | bl b => cases b <;> (simp only [O.bind, truth, evOr] at h; exact h)
    | _ => exact h.elim
  | ex _ _ _ => rw [e] at h; exact h
  | bad => rw [e] at h; exact h
theorem v_and {e e' : Expr} {es : List Expr} {m m' : E} {ms : List E} (h : PE X e (TM Γ KE (evE C ini m))) (h2 : PE X (.BoolOp .And (e' :: es) pos) (TM Γ KE (evE C ini (.and (m' :: ms))))) :
    PE X (.BoolOp .And (e :: e' :: es) pos) (TM Γ KE (evE C ini (.and (m :: m' :: ms)))) := by
  refine pe_weak (pe_and h h2) ?_
  rintro σ H Q ⟨G, Hm, i, r, m1, x, h⟩
  rw [evE, ev_and1] at h
  unfold evT at h
  refine ⟨G, Hm, i, r, m1, x, ?_⟩
  cases e : evE C ini m r m1 with
  | ok d r1 m2 =>
    rw [e] at h
    cases d with
    | bl b =>
      intro Hm' i' H' g x' v rv
      cases rv
      refine ⟨b, rfl, ?_⟩
      cases b with
      | true =>
        rw [if_pos rfl]
        refine ⟨G, Hm', i', r1, m2, x', ?_⟩
        rw [evE]
        exact After.later g h
      | false =>
        rw [if_neg Bool.false_ne_true]
        exact h Hm' i' H' g x' _ (.bl false)
    | _ => exact h.elim
  | ex _ _ _ => rw [e] at h; exact h
  | bad => rw [e] at h; exact h
theorem v_or {e e' : Expr} {es : List Expr} {m m' : E} {ms : List E} (h : PE X e (TM Γ KE (evE C ini m))) (h2 : PE X (.BoolOp .Or (e' :: es) pos) (TM Γ KE (evE C ini (.or (m' :: ms))))) :
    PE X (.BoolOp .Or (e :: e' :: es) pos) (TM Γ KE (evE C ini (.or (m :: m' :: ms)))) := by
  refine pe_weak (pe_or h h2) ?_
  rintro σ H Q ⟨G, Hm, i, r, m1, x, h⟩
  rw [evE, ev_or1] at h
  unfold evT at h
  refine ⟨G, Hm, i, r, m1, x, ?_⟩
  cases e : evE C ini m r m1 with
  | ok d r1 m2 =>
    rw [e] at h
    cases d with
    | bl b =>
      intro Hm' i' H' g x' v rv
      cases rv
      refine ⟨b, rfl, ?_⟩
      cases b with
      | false =>
        rw [if_neg Bool.false_ne_true]
        refine ⟨G, Hm', i', r1, m2, x', ?_⟩
        rw [evE]
        exact After.later g h
      | true =>
        rw [if_pos rfl]
        exact h Hm' i' H' g x' _ (.bl true)
    | _ => exact h.elim
  | ex _ _ _ => rw [e] at h; exact h
  | bad => rw [e] at h; exact h
theorem v_not {e : Expr} {m : E} (h : PE X e (TM Γ KE (evE C ini m))) : PE X (.UnaryOp .Not e pos) (TM Γ KE (evE C ini (.not m))) := by
  refine pe_weak (pe_not h) ?_
  rintro σ H Q ⟨G, Hm, i, r, m1, x, h⟩
  rw [evE] at h
  refine ⟨G, Hm, i, r, m1, x, h.bind.imp fun d r1 m1 Hm1 i1 H1 _ x1 k1 v rv => ?_⟩
  cases d with
  | bl b => cases rv; exact ⟨b, rfl, k1.here x1 _ (.bl _)⟩
  | _ => exact k1.elim
theorem v_ife {c a b : Expr} {mc ma mb : E} (hc : PT X c (TB Γ KE (evT (evE C ini mc)))) (ha : PE X a (TM Γ KE (evE C ini ma))) (hb : PE X b (TM Γ KE (evE C ini mb))) :
    PE X (.IfExp c a b pos) (TM Γ KE (evE C ini (.ife mc ma mb))) := by
  refine pe_weak (pe_ifExp hc ha hb) ?_
  rintro σ H Q ⟨G, Hm, i, r, m1, x, h⟩
  rw [evE] at h
  refine ⟨G, Hm, i, r, m1, x, ?_⟩
  unfold evT
  cases e : evE C ini mc r m1 with
  | ok d r1 m2 =>
    rw [e] at h
    cases d with
    | bl b =>
      intro Hm' i' H' g x'
      cases b with
      | true => rw [if_pos rfl]; exact ⟨G, Hm', i', r1, m2, x', After.later g h⟩
      | false => rw [if_neg Bool.false_ne_true]; exact ⟨G, Hm', i', r1, m2, x', After.later g h⟩
    | _ => exact h.elim
  | ex _ _ _ => rw [e] at h; exact h
  | bad => rw [e] at h; exact h
end
end Mi
end
section
set_option maxRecDepth 100000
/-! Mi: operators and comparisons. -/
namespace Mi
open PySem L2

/-! ### plain data -/
section
variable {Γ : Glo} {Hm H : Hp} {i : List Addr}
mutual
theorem Rep.dp (s : Le Hm H) : ∀ {v : V} {d : D}, Rep Γ Hm i v d → isPy d = true → Dp Γ.K H v (py d)
  | _, _, .non, _ => .non
  | _, _, .bl b, _ => .bl b
  | _, _, .int n, _ => .int n
  | _, _, .str x, _ => .str x
  | _, _, .tup h r, e => .tup (SqT.le s h) (Reps.dp s r (by simpa [isPy] using e))
  | _, _, .lst h r, e => .lst (SqL.le s h) (Reps.dp s r (by simpa [isPy] using e))
  | _, _, .dct _ _ _ _, e => by simp [isPy] at e
  | _, _, .ins _ _ _ _, e => by simp [isPy] at e
  | _, _, .loc _, e => by simp [isPy] at e
theorem Reps.dp (s : Le Hm H) : ∀ {v : List V} {d : List D}, Reps Γ Hm i v d → isPys d = true → DpAll Γ.K H v (pys d)
  | _, _, .nil, _ => .nil
  | _, _, .cons h r, e => by
    simp only [isPys, Bool.and_eq_true] at e
    exact .cons (Rep.dp s h e.1) (Reps.dp s r e.2)
end
theorem BRep.dp (s : Le Hm H) {v : V} {d : D} (h : BRep Γ Hm i H v d) (e : isPy d = true) : Dp Γ.K H v (py d) := by
  rcases h with h | ⟨a, o, rfl, ha, h⟩
  · exact h.dp s e
  · cases h with
    | lst r => exact .lst (SqL.of ha) (r.dp s (by simpa [isPy] using e))
    | dct => simp [isPy] at e
    | ins => simp [isPy] at e
/-- a location's list, looked at -/
theorem BRep.deref {G : Act} {r : List Sl} {m : List D} {σ : St} (x : R Γ G Hm i r m σ H) {v : V} {d e : D} (h : BRep Γ Hm i H v d) (q : deref m d = some e) : BRep Γ Hm i H v e := by
  cases d with
  | loc n =>
    rcases h with h | ⟨a, o, _, _, h⟩
    · cases h with
      | loc h1 =>
        obtain ⟨a, o, h2, h3, _, h4⟩ := x.loc n e q
        rw [h1] at h2; cases h2
        exact .inr ⟨_, _, rfl, h3, h4⟩
    · cases h
  | _ => cases q; exact h
end
section
variable {X : Cx}
/-- two lists laid together -/
def rCatR (K : PySem.W.Frag) : R2 := fun x y H Q => ∃ l b xs zs, x = .ref l ∧ y = .ref b ∧ SqL K H l xs ∧ SqL K H b zs ∧ xs.length + zs.length ≤ sizeLine ∧ ∀ p, H p = none → Q (.ref p) (upd H p (.lst (xs ++ zs)))
theorem op_catR : OpR X (binaryOp .Add) (rCatR X.K) := by
  intro pins s σ H x y v u Q I rx ry h
  obtain ⟨l, b, xs, zs, rfl, rfl, hA, hB, hz, q⟩ := h
  cases rx; cases ry
  obtain ⟨its, r, ⟨⟨c1, d1, t1, s1⟩, n, ho, hc, hdn, hd⟩, _⟩ := I.list hA
  obtain ⟨its2, r2, ⟨⟨c2, d2, t2, s2⟩, n2, ho2, hc2, hdn2, hd2⟩, _⟩ := I.list hB
  simp only at hc hdn hd hc2 hdn2 hd2
  subst hc hdn hd hc2 hdn2 hd2
  have hl := r.length
  have hl2 := r2.length
  refine concat_meets ⟨_, ho, rfl⟩ ⟨_, ho2, rfl⟩ PySem.noFill_list_add PySem.seq_list_add PySem.F.slot_list_add PySem.F.entry_list_add (PySem.F.args_list_add_2 _ _)
    (PyProof.Rows.list_addW l b its.toArray its2.toArray n n2 none none s1 s2 (by rw [List.size_toArray, List.size_toArray]; omega)) ⟨ho, ho2, ?_⟩
  have ea : its.toArray ++ its2.toArray = (its ++ its2).toArray := by simp
  rw [ea]
  exact ⟨.ref _, _, I.lnew (t' := s.toks) (r.append r2) (by rw [List.length_append]; omega), rfl, q _ I.fresh⟩
def rInTup (K : PySem.W.Frag) (neg : Bool) : R2 := fun x y H Q => ∃ d ds, Dp K H x d ∧ Dp K H y (.tuple ds) ∧ SeqAt.shaped d = true ∧ SeqAt.shaped (.tuple ds) = true ∧ Q (.bl (xor neg (ds.any fun z => PyData.eqv z d))) H
theorem op_inTup (hu : X.A.units + 65 < cLine) : OpR X (compareOp .In) (rInTup X.K false) := by
  intro pins s σ H x y v u Q I rx ry h
  obtain ⟨d, ds, hd, he, sd, se, q⟩ := h
  obtain ⟨as, r1⟩ := Dp.reads I d x v hd rx
  obtain ⟨bs, r2⟩ := Dp.reads I (.tuple ds) y u he ry
  refine SeqAt.in_tuple_reads r2 r1 (SeqAt.canLay_of_shaped se) (SeqAt.canLay_of_shaped sd) (PyProof.Rows.room_in_shaped sd hu) ?_
  exact fin_bl I q (by simp)
theorem op_ninTup (hu : X.A.units + 65 < cLine) : OpR X (compareOp .NotIn) (rInTup X.K true) := by
  intro pins s σ H x y v u Q I rx ry h
  obtain ⟨d, ds, hd, he, sd, se, q⟩ := h
  obtain ⟨as, r1⟩ := Dp.reads I d x v hd rx
  obtain ⟨bs, r2⟩ := Dp.reads I (.tuple ds) y u he ry
  refine SeqAt.notIn_tuple_reads r2 r1 (SeqAt.canLay_of_shaped se) (SeqAt.canLay_of_shaped sd) (PyProof.Rows.room_in_shaped sd hu) ?_
  exact fin_bl I q (by simp)
/-- order of alike data -/
def rOrd (K : PySem.W.Frag) (g : PyData → PyData → Bool) : R2 := fun x y H Q => ∃ d e, Dp K H x d ∧ Dp K H y e ∧ W.alike d e = true ∧ d ≠ .none ∧ SeqAt.shaped d = true ∧ Q (.bl (g d e)) H
theorem op_ltD (hu : X.A.units + 64 < cLine) : OpR X (compareOp .Lt) (rOrd X.K fun d e => W.dataLt d e) := by
  intro pins s σ H x y v u Q I rx ry h
  obtain ⟨d, e, hd, he, ha, hn, sd, q⟩ := h
  obtain ⟨as, r1⟩ := Dp.reads I d x v hd rx
  obtain ⟨bs, r2⟩ := Dp.reads I e y u he ry
  exact W.lt_data r1 r2 ha hn (SeqAt.room_of_shaped sd hu) ⟨.bl _, H, I, rfl, q⟩
theorem op_gtD (hu : X.A.units + 64 < cLine) : OpR X (compareOp .Gt) (rOrd X.K fun d e => W.dataLt e d) := by
  intro pins s σ H x y v u Q I rx ry h
  obtain ⟨d, e, hd, he, ha, hn, sd, q⟩ := h
  obtain ⟨as, r1⟩ := Dp.reads I d x v hd rx
  obtain ⟨bs, r2⟩ := Dp.reads I e y u he ry
  exact W.gt_data r1 r2 ha hn (SeqAt.room_of_shaped sd hu) ⟨.bl _, H, I, rfl, q⟩
end

/-! ### readings -/
section
variable {Γ : Glo}
theorem Rd2.or1 {f : Bi} {r r' : R2} (h : Rd2 Γ f r) : Rd2 Γ f fun x y H Q => r x y H Q ∨ r' x y H Q := fun G Hm i rr m σ H x y a b d Q R1 ha hb e k => .inl (h G Hm i rr m σ H x y a b d Q R1 ha hb e k)
theorem reps_append {Hm : Hp} {i : List Addr} {xs ys : List V} {ds es : List D} (h : Reps Γ Hm i xs ds) (h' : Reps Γ Hm i ys es) : Reps Γ Hm i (xs ++ ys) (ds ++ es) := h.app h'
/-- + -/
def rAddM (K : PySem.W.Frag) : R2 := fun x y H Q => (rI0 (fun i j => V.int (i + j)) x y H Q ∨ (∃ i j, x = .str i ∧ y = .str j ∧ i.length + j.length ≤ sizeLine ∧ Q (.str (i ++ j)) H)) ∨ (rCatR K x y H Q ∨ rCatA K x y H Q)
theorem op_addM {X : Cx} : OpR X (binaryOp .Add) (rAddM X.K) := (op_add.or op_add_str).or (op_catR.or op_catA)
theorem add_seq {m : List D} {a b d : D} (h : b_add m [a, b] = some d) : (∃ i j, a = .int i ∧ b = .int j ∧ d = .int (i + j)) ∨ (∃ x y, a = .str x ∧ b = .str y ∧ x.length + y.length ≤ 1000 ∧ d = .str (x ++ y)) ∨
    (∃ x y, a = .tup x ∧ b = .tup y ∧ x.length + y.length ≤ 1000 ∧ d = .tup (x ++ y)) ∨ (∃ xs ys, (∀ es, a ≠ .tup es) ∧ (∀ es, b ≠ .tup es) ∧ seqOf m a = some xs ∧ seqOf m b = some ys ∧ xs.length + ys.length ≤ 1000000 ∧ d = .lst (xs ++ ys)) := by
  unfold b_add at h
  split at h
  · rename_i e; cases e; cases h; exact .inl ⟨_, _, rfl, rfl, rfl⟩
  · rename_i e; cases e
    split at h
    · cases h; exact .inr (.inl ⟨_, _, rfl, rfl, by assumption, rfl⟩)
    · cases h
  · rename_i e; cases e
    split at h
    · cases h; exact .inr (.inr (.inl ⟨_, _, rfl, rfl, by assumption, rfl⟩))
    · cases h
  · rename_i e; cases e
    split at h
    · cases h
    · cases h
    · rename_i hx hy
      split at h
      · split at h
        · cases h; exact .inr (.inr (.inr ⟨_, _, fun es z => hx es z, fun es z => hy es z, by assumption, by assumption, by assumption, rfl⟩))
        · cases h
      · cases h
  · cases h
end
end Mi
end
section
set_option maxRecDepth 100000
/-! Mi: operators and comparisons, read. -/
namespace Mi
open PySem L2
section
variable {Γ : Glo} {G : Act} {Hm H : Hp} {i : List Addr} {r : List Sl} {m : List D} {σ : St} {Q : VK}
theorem fn_lst (x : R Γ G Hm i r m σ H) {xs : List V} {ds : List D} (q : Reps Γ Hm i xs ds) (h : FN Γ Hm i H (.lst ds) Q) : ∀ p, H p = none → Q (.ref p) (upd H p (.lst xs)) := fun p hp =>
  h p (.lst xs) Hm (upd H p (.lst xs)) ⟨le_upd hp, Le.refl _, x.sub.trans (le_upd hp), fun _ _ z => .inl z⟩ upd_same hp (x.free hp).1 (.lst q)
theorem fk_tup (x : R Γ G Hm i r m σ H) {xs : List V} {ds : List D} (q : Reps Γ Hm i xs ds) (h : FK Γ Hm i H (.tup ds) Q) : ∀ p, H p = none → Q (.ref p) (upd H p (.tup xs)) := fun p hp =>
  h (.ref p) (upd Hm p (.tup xs)) (upd H p (.tup xs)) (Grow.froz x.sub hp _) (.tup (SqT.of upd_same) (q.go (Go.froz (x.free hp).1 _)))
theorem rd_int {f : Bi} {P : Int → Int → Prop} {g : Int → Int → Int} (h : ∀ m a b d, biEval m f [a, b] = some d → ∃ i j, a = .int i ∧ b = .int j ∧ P i j ∧ d = .int (g i j)) : Rd2 Γ f (rI P fun i j => .int (g i j)) := by
  intro G Hm i rr m σ H x y a b d Q R1 ha hb e k
  obtain ⟨n, j, rfl, rfl, p, rfl⟩ := h m a b d e
  exact ⟨n, j, ha.int, hb.int, p, k.at R1 (.int _)⟩
theorem rd_int0 {f : Bi} {g : Int → Int → Int} (h : ∀ m a b d, biEval m f [a, b] = some d → ∃ i j, a = .int i ∧ b = .int j ∧ d = .int (g i j)) : Rd2 Γ f (rI0 fun i j => .int (g i j)) := by
  intro G Hm i rr m σ H x y a b d Q R1 ha hb e k
  obtain ⟨n, j, rfl, rfl, rfl⟩ := h m a b d e
  exact ⟨n, j, ha.int, hb.int, k.at R1 (.int _)⟩
theorem rd_sub : Rd2 Γ .sub (rI0 fun i j => .int (i - j)) := rd_int0 fun m a b d e => by
  change b_sub m [a, b] = some d at e
  unfold b_sub at e; split at e
  · rename_i q; cases q; cases e; exact ⟨_, _, rfl, rfl, rfl⟩
  · cases e
theorem rd_band : Rd2 Γ .band (rI0 fun i j => .int (Builtin.bitAnd i j)) := rd_int0 fun m a b d e => by
  change b_band m [a, b] = some d at e
  unfold b_band at e; split at e
  · rename_i q; cases q; cases e; exact ⟨_, _, rfl, rfl, rfl⟩
  · cases e
theorem rd_bxor : Rd2 Γ .bxor (rI0 fun i j => .int (Builtin.bitXor i j)) := rd_int0 fun m a b d e => by
  change b_bxor m [a, b] = some d at e
  unfold b_bxor at e; split at e
  · rename_i q; cases q; cases e; exact ⟨_, _, rfl, rfl, rfl⟩
  · cases e
theorem rd_mod : Rd2 Γ .mod (rI (fun _ j => j ≠ 0) fun i j => .int (i.fmod j)) := rd_int fun m a b d e => by
  change b_mod m [a, b] = some d at e
  unfold b_mod at e; split at e
  · rename_i q; cases q
    split at e
    · cases e; exact ⟨_, _, rfl, rfl, by assumption, rfl⟩
    · cases e
  · cases e
theorem bits_log {j : Int} : j.natAbs.log2 ≤ bits j := by
  unfold bits
  by_cases h : j = 0
  · subst h; decide
  · rw [if_neg h]; omega
def CDivB (i j : Int) : Prop := j ≠ 0 ∧ bits j ≤ 9000
theorem op_fdivB {X : Cx} : OpR X (binaryOp .FloorDiv) (rI CDivB fun i j => .int (i.fdiv j)) := opI fun i j _ _ _ _ _ hc q => PyProof.Rows.floordiv_int hc.1 q (.inl (PyProof.noPylong_of_log2 (by
  have h1 := hc.2
  unfold bits at h1
  rw [if_neg hc.1] at h1
  omega)))
theorem rd_fdiv : Rd2 Γ .fdiv (rI CDivB fun i j => .int (i.fdiv j)) := rd_int fun m a b d e => by
  change b_fdiv m [a, b] = some d at e
  unfold b_fdiv at e; split at e
  · rename_i q; cases q
    split at e
    · cases e; exact ⟨_, _, rfl, rfl, by assumption, rfl⟩
    · cases e
  · cases e
theorem rd_pow : Rd2 Γ .pow (rI CPow fun i j => .int (i ^ j.toNat)) := rd_int fun m a b d e => by
  change b_pow m [a, b] = some d at e
  unfold b_pow at e; split at e
  · rename_i q; cases q
    split at e
    · rename_i h; cases e; exact ⟨_, _, rfl, rfl, ⟨h.1, by omega, h.2.2⟩, rfl⟩
    · cases e
  · cases e
theorem rd_shl : Rd2 Γ .shl (rI CPow fun i j => .int (i * 2 ^ j.toNat)) := rd_int fun m a b d e => by
  change b_shl m [a, b] = some d at e
  unfold b_shl at e; split at e
  · rename_i q; cases q
    split at e
    · rename_i h; cases e; exact ⟨_, _, rfl, rfl, ⟨h.1, by omega, h.2.2⟩, rfl⟩
    · cases e
  · cases e
theorem rd_shr : Rd2 Γ .shr (rI (fun _ j => 0 ≤ j) fun i j => .int (i / 2 ^ j.toNat)) := rd_int fun m a b d e => by
  change b_shr m [a, b] = some d at e
  unfold b_shr at e; split at e
  · rename_i q; cases q
    split at e
    · cases e; exact ⟨_, _, rfl, rfl, by assumption, rfl⟩
    · cases e
  · cases e
/-- * -/
def CMulB (i j : Int) : Prop := mulOk i j = true
theorem CMulB.ok {i j : Int} (h : CMulB i j) : IntMulOk i j := by
  unfold CMulB mulOk at h
  simp only [Bool.or_eq_true, decide_eq_true_eq] at h
  rcases h with (h | h) | h
  · exact CMul.ok (.inl (by omega))
  · exact CMul.ok (.inr (by omega))
  · by_cases h1 : i = 0
    · subst h1; exact CMul.ok (.inl (by omega))
    · by_cases h2 : j = 0
      · subst h2; exact CMul.ok (.inr (by omega))
      · exact CMulW.ok (by unfold CMulW; unfold bits at h; rw [if_neg h1, if_neg h2] at h; omega)
theorem op_mulB {X : Cx} : OpR X (binaryOp .Mult) (rI CMulB fun i j => .int (i * j)) := opI fun _ _ _ _ _ _ _ hc q => PyProof.Rows.mul_int q hc.ok
end
end Mi
end
section
set_option maxRecDepth 100000
/-! Mi: statements. -/
namespace Mi
open PySem L2
section
variable {Γ : Glo} {G : Act} {Hm H Hm' H' : Hp} {i i' : List Addr} {r : List Sl} {m : List D} {σ : St}
theorem getset {α : Type} {l : List α} {n k : Nat} {x y : α} (h : (l.set n x)[k]? = some y) : (k = n ∧ x = y ∧ n < l.length) ∨ (k ≠ n ∧ l[k]? = some y) := by
  by_cases e : n = k
  · subst e
    by_cases hl : n < l.length
    · rw [List.getElem?_set_self hl] at h
      exact .inl ⟨rfl, Option.some.inj h, hl⟩
    · rw [List.getElem?_eq_none (by simpa using hl)] at h; cases h
  · rw [List.getElem?_set_ne e] at h
    exact .inr ⟨fun z => e z.symm, h⟩
/-- a slot gets a value -/
theorem R.setV (x : R Γ G Hm i r m σ H) {n : Nat} {v : V} {d : D} (q : Rep Γ Hm i v d) (hn : n < r.length) : R Γ G Hm i (r.set n (.v d)) m (σ.set n (some v)) H where
  sub := x.sub
  len := by simp [x.len]
  val := fun k e h => by
    rcases getset h with ⟨rfl, h1, h2⟩ | ⟨h1, h2⟩
    · cases h1
      exact ⟨v, List.getElem?_set_self (by rw [x.len]; exact h2), q⟩
    · obtain ⟨y, a, b⟩ := x.val k e h2
      exact ⟨y, by rw [List.getElem?_set_ne (Ne.symm h1)]; exact a, b⟩
  own := fun k e h => by
    rcases getset h with ⟨rfl, h1, h2⟩ | ⟨h1, h2⟩
    · cases h1
    · obtain ⟨a, o, h3, h4⟩ := x.own k e h2
      exact ⟨a, o, by rw [List.getElem?_set_ne (Ne.symm h1)]; exact h3, h4⟩
  apart := fun k l d e a hkl h1 h2 h3 => by
    rcases getset h1 with ⟨_, h, _⟩ | ⟨k1, k2⟩
    · cases h
    · rcases getset h2 with ⟨_, h, _⟩ | ⟨l1, l2⟩
      · cases h
      · rw [List.getElem?_set_ne (Ne.symm k1)] at h3
        rw [List.getElem?_set_ne (Ne.symm l1)]
        exact x.apart k l d e a hkl k2 l2 h3
  loc := x.loc
  locl := x.locl
  locd := x.locd
  keep := x.keep
  new := x.new
  old := x.old
  pre := x.pre
  locn := x.locn
/-- a slot gets a new container -/
theorem R.setO (x : R Γ G Hm i r m σ H) {n : Nat} {a : Addr} {o : HO} {d : D} (q : NewAt Γ G Hm i r σ H a o d) (hn : n < r.length) : R Γ G Hm i (r.set n (.o d)) m (σ.set n (some (.ref a))) H where
  sub := x.sub
  len := by simp [x.len]
  val := fun k e h => by
    rcases getset h with ⟨rfl, h1, h2⟩ | ⟨h1, h2⟩
    · cases h1
    · obtain ⟨y, a, b⟩ := x.val k e h2
      exact ⟨y, by rw [List.getElem?_set_ne (Ne.symm h1)]; exact a, b⟩
  own := fun k e h => by
    rcases getset h with ⟨rfl, h1, h2⟩ | ⟨h1, h2⟩
    · cases h1
      exact ⟨a, o, List.getElem?_set_self (by rw [x.len]; exact h2), q.at_, q.hm, q.ni, q.h0, q.con⟩
    · obtain ⟨a, o, h3, h4⟩ := x.own k e h2
      exact ⟨a, o, by rw [List.getElem?_set_ne (Ne.symm h1)]; exact h3, h4⟩
  apart := fun k l d' e b hkl h1 h2 h3 => by
    rcases getset h1 with ⟨rfl, h4, hk⟩ | ⟨k1, k2⟩
    · rcases getset h2 with ⟨rfl, _, _⟩ | ⟨l1, l2⟩
      · exact absurd rfl hkl
      · rw [List.getElem?_set_self (by rw [x.len]; exact hk)] at h3
        cases h3
        rw [List.getElem?_set_ne (Ne.symm l1)]
        exact q.ap l e l2
    · rw [List.getElem?_set_ne (Ne.symm k1)] at h3
      rcases getset h2 with ⟨rfl, _, hl⟩ | ⟨l1, l2⟩
      · rw [List.getElem?_set_self (by rw [x.len]; exact hl)]
        intro z
        cases z
        exact q.ap k d' k2 h3
      · rw [List.getElem?_set_ne (Ne.symm l1)]
        exact x.apart k l d' e b hkl k2 l2 h3
  loc := x.loc
  locl := x.locl
  locd := x.locd
  keep := x.keep
  new := x.new
  old := x.old
  pre := x.pre
  locn := x.locn
theorem getsome {α : Type} {l : List α} {n : Nat} {x : α} (h : l[n]? = some x) : n < l.length := (List.getElem?_eq_some_iff.mp h).1
/-- an owned object is changed -/
theorem R.mutO (x : R Γ G Hm i r m σ H) {n : Nat} {a : Addr} {o : HO} {d e : D} (hs : r[n]? = some (.o d)) (ha : σ[n]? = some (some (.ref a))) (c : Con Γ Hm i a o e) : R Γ G Hm i (r.set n (.o e)) m σ (upd H a o) := by
  have hn := getsome hs
  obtain ⟨b, u, h1, h2, h3, h4, h5, h6⟩ := x.own n d hs
  rw [ha] at h1; cases h1
  refine ⟨fun b v h => ?_, by simp [x.len], fun k f h => ?_, fun k f h => ?_, fun k l d' e' b hkl k1 k2 k3 => ?_, fun k f h => ?_, x.locl, x.locd, fun b v h hb => ?_, x.new, x.old, x.pre, x.locn⟩
  · have : b ≠ a := fun z => by subst z; rw [h3] at h; cases h
    rw [upd_ne this]; exact x.sub b v h
  · rcases getset h with ⟨rfl, z, _⟩ | ⟨_, z⟩
    · cases z
    · exact x.val k f z
  · rcases getset h with ⟨rfl, z, _⟩ | ⟨hk, z⟩
    · cases z
      exact ⟨a, o, ha, upd_same, h3, h4, h5, c⟩
    · obtain ⟨b, v, q1, q2, q3, q4, q5, q6⟩ := x.own k f z
      have : b ≠ a := fun w => by subst w; exact x.apart n k d f b (Ne.symm hk) hs z ha q1
      exact ⟨b, v, q1, by rw [upd_ne this]; exact q2, q3, q4, q5, q6⟩
  · rcases getset k1 with ⟨rfl, z, _⟩ | ⟨z1, z2⟩
    · rcases getset k2 with ⟨rfl, _, _⟩ | ⟨y1, y2⟩
      · exact absurd rfl hkl
      · exact x.apart _ l d e' b hkl hs y2 k3
    · rcases getset k2 with ⟨rfl, _, _⟩ | ⟨y1, y2⟩
      · exact x.apart k _ d' d b hkl z2 hs k3
      · exact x.apart k l d' e' b hkl z2 y2 k3
  · obtain ⟨b, v, q1, q2, q3, q4⟩ := x.loc k f h
    have : b ≠ a := fun w => by subst w; exact h4 (List.mem_of_getElem? q1)
    exact ⟨b, v, q1, by rw [upd_ne this]; exact q2, q3, q4⟩
  · have : b ≠ a := fun w => by subst w; rw [h5] at h; cases h
    rw [upd_ne this]; exact x.keep b v h hb
/-- a location's list is changed -/
theorem R.mutL (x : R Γ G Hm i r m σ H) {n : Nat} {a : Addr} {o : HO} {d e : D} (hs : m[n]? = some d) (ha : i[n]? = some a) (c : Con Γ Hm i a o e) : R Γ G Hm i r (m.set n e) σ (upd H a o) := by
  have hn := getsome hs
  have hin := getsome ha
  obtain ⟨b, u, h1, h2, h3, h6⟩ := x.loc n d hs
  rw [ha] at h1; cases h1
  refine ⟨fun b v h => ?_, x.len, x.val, fun k f h => ?_, x.apart, fun k f h => ?_, by simp [x.locl], x.locd, fun b v h hb => ?_, x.new, x.old, x.pre, x.locn⟩
  · have : b ≠ a := fun z => by subst z; rw [h3] at h; cases h
    rw [upd_ne this]; exact x.sub b v h
  · obtain ⟨b, v, q1, q2, q3, q4, q5, q6⟩ := x.own k f h
    have : b ≠ a := fun w => by subst w; exact q4 (List.mem_of_getElem? ha)
    exact ⟨b, v, q1, by rw [upd_ne this]; exact q2, q3, q4, q5, q6⟩
  · rcases getset h with ⟨rfl, z, _⟩ | ⟨hk, z⟩
    · cases z
      exact ⟨a, o, ha, upd_same, h3, c⟩
    · obtain ⟨b, v, q1, q2, q3, q4⟩ := x.loc k f z
      have : b ≠ a := fun w => by
        subst w
        obtain ⟨g1, e1⟩ := List.getElem?_eq_some_iff.mp ha
        obtain ⟨g2, e2⟩ := List.getElem?_eq_some_iff.mp q1
        exact hk ((List.getElem_inj x.locd).mp (e2.trans e1.symm))
      exact ⟨b, v, q1, by rw [upd_ne this]; exact q2, q3, q4⟩
  · have hne : b ≠ a := fun w => by
      subst w
      have hm := List.mem_of_getElem? ha
      rcases x.locn b hm with z | z
      · exact hb z
      · rw [z] at h; cases h
    rw [upd_ne hne]; exact x.keep b v h hb
/-- a new list becomes a location -/
theorem R.box (x : R Γ G Hm i r m σ H) {n : Nat} {a : Addr} {o : HO} {d : D} (q : NewAt Γ G Hm i r σ H a o d) (hn : n < r.length) :
    R Γ G Hm (i ++ [a]) (r.set n (.v (.loc m.length))) (m ++ [d]) (σ.set n (some (.ref a))) H := by
  have pr : i <+: i ++ [a] := List.prefix_append _ _
  have hl := x.locl
  refine ⟨x.sub, by simp [x.len], fun k e h => ?_, fun k e h => ?_, fun k l d e b hkl h1 h2 h3 => ?_, fun k e h => ?_, by simp [hl], ?_, x.keep, x.new, x.old, x.pre.trans pr, fun b hb => ?_⟩
  · rcases getset h with ⟨rfl, h1, h2⟩ | ⟨h1, h2⟩
    · cases h1
      exact ⟨.ref a, List.getElem?_set_self (by rw [x.len]; exact h2), .loc (by rw [← hl]; simp)⟩
    · obtain ⟨y, a, b⟩ := x.val k e h2
      exact ⟨y, by rw [List.getElem?_set_ne (Ne.symm h1)]; exact a, b.le (Le.refl _) pr⟩
  · rcases getset h with ⟨rfl, h1, h2⟩ | ⟨h1, h2⟩
    · cases h1
    · obtain ⟨b, o', h3, h4, h5, h6, h7, h8⟩ := x.own k e h2
      refine ⟨b, o', by rw [List.getElem?_set_ne (Ne.symm h1)]; exact h3, h4, h5, fun z => ?_, h7, h8.le (Le.refl _) pr⟩
      rcases List.mem_append.mp z with z | z
      · exact h6 z
      · simp only [List.mem_singleton] at z
        subst z
        exact q.ap k e h2 h3
  · rcases getset h1 with ⟨_, h, _⟩ | ⟨k1, k2⟩
    · cases h
    · rcases getset h2 with ⟨_, h, _⟩ | ⟨l1, l2⟩
      · cases h
      · rw [List.getElem?_set_ne (Ne.symm k1)] at h3
        rw [List.getElem?_set_ne (Ne.symm l1)]
        exact x.apart k l d e b hkl k2 l2 h3
  · by_cases hk : k < m.length
    · rw [List.getElem?_append_left hk] at h
      obtain ⟨b, v, q1, q2, q3, q4⟩ := x.loc k e h
      exact ⟨b, v, ix_pre pr q1, q2, q3, q4.le (Le.refl _) pr⟩
    · have hk' : k = m.length := by
        have := getsome h
        simp at this
        omega
      subst hk'
      simp at h
      subst h
      exact ⟨a, o, by rw [← hl]; simp, q.at_, q.hm, q.con.le (Le.refl _) pr⟩
  · rw [List.nodup_append]
    exact ⟨x.locd, by simp, fun b hb c hc => by simp only [List.mem_singleton] at hc; subst hc; exact fun z => q.ni (z ▸ hb)⟩
  · rcases List.mem_append.mp hb with z | z
    · exact x.locn b z
    · simp only [List.mem_singleton] at z
      subst z
      exact .inr q.h0
theorem set_same {α : Type} {l : List α} {n : Nat} {y : α} (h : l[n]? = some y) : l.set n y = l := by
  apply List.ext_getElem?
  intro k
  by_cases e : n = k
  · subst e; rw [List.getElem?_set_self (getsome h), h]
  · rw [List.getElem?_set_ne e]
/-- owned slots are frozen -/
theorem R.freeze1 (x : R Γ G Hm i r m σ H) {n : Nat} {d : D} (hs : r[n]? = some (.o d)) : ∃ Hm', Go Hm i Hm' i ∧ R Γ G Hm' i (r.set n (.v d)) m σ H := by
  obtain ⟨a, o, h1, h2, h3, h4, h5, h6⟩ := x.own n d hs
  have hn := getsome hs
  have g : Go Hm i (upd Hm a o) i := Go.froz h3 o
  refine ⟨upd Hm a o, g, ⟨fun b v h => ?_, by simp [x.len], fun k e h => ?_, fun k e h => ?_, fun k l d' e b hkl k1 k2 k3 => ?_, fun k e h => ?_, x.locl, x.locd, x.keep, fun b v h => ?_, x.old.trans g.hm, x.pre, x.locn⟩⟩
  · by_cases hb : b = a
    · subst hb; rw [upd_same] at h; cases h; exact h2
    · rw [upd_ne hb] at h; exact x.sub b v h
  · rcases getset h with ⟨rfl, z, _⟩ | ⟨_, z⟩
    · cases z
      exact ⟨_, h1, h6.freeze h3⟩
    · obtain ⟨y, q1, q2⟩ := x.val k e z
      exact ⟨y, q1, q2.go g⟩
  · rcases getset h with ⟨rfl, z, _⟩ | ⟨hk, z⟩
    · cases z
    · obtain ⟨b, v, q1, q2, q3, q4, q5, q6⟩ := x.own k e z
      have : b ≠ a := fun w => by subst w; exact x.apart n k d e b (Ne.symm hk) hs z h1 q1
      exact ⟨b, v, q1, q2, by rw [upd_ne this]; exact q3, q4, q5, q6.le g.hm g.pre⟩
  · rcases getset k1 with ⟨rfl, z, _⟩ | ⟨z1, z2⟩
    · cases z
    · rcases getset k2 with ⟨rfl, z, _⟩ | ⟨y1, y2⟩
      · cases z
      · exact x.apart k l d' e b hkl z2 y2 k3
  · obtain ⟨b, v, q1, q2, q3, q4⟩ := x.loc k e h
    have : b ≠ a := fun w => by subst w; exact h4 (List.mem_of_getElem? q1)
    exact ⟨b, v, q1, q2, by rw [upd_ne this]; exact q3, q4.le g.hm g.pre⟩
  · by_cases hb : b = a
    · subst hb; exact .inr h5
    · rw [upd_ne hb] at h; exact x.new b v h
theorem R.freeze (x : R Γ G Hm i r m σ H) : ∀ (is : List Nat), ∃ Hm', Go Hm i Hm' i ∧ R Γ G Hm' i (freeze r is) m σ H := by
  intro is
  induction is generalizing Hm r with
  | nil => exact ⟨Hm, Go.refl _ _, x⟩
  | cons n is ih =>
    unfold Mi.freeze
    split
    · obtain ⟨H1, g1, x1⟩ := x.freeze1 (by assumption)
      obtain ⟨H2, g2, x2⟩ := ih x1
      exact ⟨H2, g1.trans g2, x2⟩
    · exact ih x
end

/-! ### what is wanted behind a statement -/
/-- a returned value -/
def RetRep (kd : Kd) (Γ : Glo) (G : Act) (Hm : Hp) (i : List Addr) (H : Hp) (v : V) (d : D) : Prop := match kd with
  | .new => ∃ a o, v = .ref a ∧ H a = some o ∧ Hm a = none ∧ a ∉ i ∧ G.H0 a = none ∧ Con Γ Hm i a o d
  | _ => Rep Γ Hm i v d
def AfterS (Γ : Glo) (G : Act) (KE : KEt) (kd : Kd) (Hm : Hp) (i : List Addr) (o : O F) (D : Ends) : Prop :=
  match o with
  | .ok .nx r m => ∀ Hm' i' σ' H', Go Hm i Hm' i' → R Γ G Hm' i' r m σ' H' → D.nx σ' H'
  | .ok (.rt d) r m => ∀ Hm' i' σ' H' v, Go Hm i Hm' i' → R Γ G Hm' i' r m σ' H' → RetRep kd Γ G Hm' i' H' v d → D.rt v H'
  | .ex x r m => ∀ Hm' i', Go Hm i Hm' i' → KE G x r m Hm' i'
  | .bad => False
def TSm (Γ : Glo) (KE : KEt) (kd : Kd) (ev : List Sl → List D → O F) : TS := fun D σ H => ∃ G Hm i r m, R Γ G Hm i r m σ H ∧ AfterS Γ G KE kd Hm i (ev r m) D
section
variable {Γ : Glo} {G : Act} {KE : KEt} {kd : Kd} {Hm Hm1 H : Hp} {i i1 : List Addr} {r : List Sl} {m : List D} {σ : St} {D : Ends}
theorem AfterS.later {o : O F} (g : Go Hm i Hm1 i1) (h : AfterS Γ G KE kd Hm i o D) : AfterS Γ G KE kd Hm1 i1 o D := by
  cases o with
  | ok a r m =>
    cases a with
    | nx => exact fun _ _ _ _ g' => h _ _ _ _ (g.trans g')
    | rt d => exact fun _ _ _ _ _ g' => h _ _ _ _ _ (g.trans g')
  | ex x r m => exact fun _ _ g' => h _ _ (g.trans g')
  | bad => exact h
/-- an expression first -/
theorem AfterS.bind {α : Type} {o : O α} {f : α → List Sl → List Mi.D → O F} (h : AfterS Γ G KE kd Hm i (o.bind f) D) :
    After Γ G σ KE Hm i o fun a r m Hm1 i1 _ => AfterS Γ G KE kd Hm1 i1 (f a r m) D := by
  cases o with
  | ok a r m => exact fun Hm' i' H' g' _ => AfterS.later g' h
  | ex x r m => exact h
  | bad => exact h
theorem AfterS.nx {r : List Sl} {m : List Mi.D} (h : AfterS Γ G KE kd Hm i (.ok .nx r m) D) (x : R Γ G Hm i r m σ H) : D.nx σ H := h _ _ _ _ (Go.refl _ _) x
end
end Mi
end
section
set_option maxRecDepth 100000
/-! Mi: statements, read. -/
namespace Mi
open PySem L2
section
variable {X : Cx} {Γ : Glo} {G : Act} {KE : KEt} {kd : Kd} {C : Nat → List D → List D → CO} {ini : Str → Option Nat} {W : Nat} {pos : Pos}

theorem s_pass : PS X (.Pass pos) (TSm Γ KE kd (evS C ini W .pass)) := by
  refine ps_weak ps_pass ?_
  rintro D σ H ⟨G, Hm, i, r, m, x, h⟩
  rw [evS] at h
  exact h.nx x
/-- a docstring -/
theorem s_doc {x : Str} {j : Nat} {p : Pos} : PS X (.Expr (.Constant (.str x) j p) pos) (TSm Γ KE kd (evS C ini W .pass)) := by
  refine ps_weak ps_doc ?_
  rintro D σ H ⟨G, Hm, i, r, m, x, h⟩
  rw [evS] at h
  exact h.nx x
def noComp (e : Expr) : Bool := match e with | .ListComp _ _ _ _ => false | .SetComp _ _ _ _ => false | .DictComp _ _ _ _ _ => false | _ => true
theorem swaps_no {e : Expr} {t : Option Expr} {l : Nat} {env : Env} (h : noComp e = true) : swapsWith e t l env = pure false := by
  cases e <;> first | rfl | (simp [noComp] at h)
theorem s_ex {e : Expr} {me : E} (h : PE X e (TM Γ KE (evE C ini me))) (hn : noComp e = true) : PS X (.Expr e pos) (TSm Γ KE kd (evS C ini W (.ex me))) := by
  refine ps_weak (ps_expr h (swaps_no hn)) ?_
  rintro D σ H ⟨G, Hm, i, r, m, x, h⟩
  rw [evS] at h
  exact ⟨G, Hm, i, r, m, x, (h.bind (σ := σ)).imp fun d r1 m1 Hm1 i1 H1 _ x1 k1 v _ => k1.nx x1⟩
theorem s_ret {e : Expr} {me : E} (hk : kd ≠ .new) (h : PE X e (TM Γ KE (evE C ini me))) : PS X (.Return (some e) pos) (TSm Γ KE kd (evS C ini W (.ret me))) := by
  refine ps_weak (ps_ret h) ?_
  rintro D σ H ⟨G, Hm, i, r, m, x, h⟩
  rw [evS] at h
  refine ⟨G, Hm, i, r, m, x, (h.bind (σ := σ)).imp fun d r1 m1 Hm1 i1 H1 _ x1 k1 v rv => k1 _ _ _ _ v (Go.refl _ _) x1 ?_⟩
  cases kd with
  | new => exact absurd rfl hk
  | any => exact rv
  | init c => exact rv
theorem s_retN (hk : kd ≠ .new) : PS X (.Return none pos) (TSm Γ KE kd (evS C ini W .retN)) := by
  refine ps_weak ps_retN ?_
  rintro D σ H ⟨G, Hm, i, r, m, x, h⟩
  rw [evS] at h
  refine h _ _ _ _ _ (Go.refl _ _) x ?_
  cases kd with
  | new => exact absurd rfl hk
  | any => exact .non
  | init c => exact .non
theorem s_retF {e : Expr} {me : E} (h : PE X e (TN Γ KE (evE C ini me))) : PS X (.Return (some e) pos) (TSm Γ KE .new (evS C ini W (.retF me))) := by
  refine ps_weak (ps_ret h) ?_
  rintro D σ H ⟨G, Hm, i, r, m, x, h⟩
  rw [evS] at h
  refine ⟨G, Hm, i, r, m, x, ?_⟩
  cases q : evE C ini me r m with
  | ok d r1 m1 =>
    rw [q] at h
    simp only [O.bind] at h
    unfold contO O.bind
    by_cases hc : isCont d = true
    · simp only [hc, if_true] at h ⊢
      exact fun Hm' i' H' g x' a o n => h _ _ _ _ _ g x' ⟨a, o, rfl, n.at_, n.hm, n.ni, n.h0, n.con⟩
    · simp only [hc] at h; exact h.elim
  | ex _ _ _ => rw [q] at h; exact h
  | bad => rw [q] at h; exact h.elim
theorem s_retO {n : Nat} {x : Str} {p : Pos} (hN : X.N[n]? = some x) (hv : Vis X.env.scope x) (hd : (x == ("__debug__" : Str)) = false) (hc : (x == ("__classdict__" : Str)) = false) :
    PS X (.Return (some (.Name x p)) pos) (TSm Γ KE .new (evS C ini W (.retO n))) := by
  refine ps_weak (ps_ret (pe_var hN hv hd hc)) ?_
  rintro D σ H ⟨G, Hm, i, r, m, x, h⟩
  rw [evS] at h
  cases q : slotO r n with
  | none => rw [q] at h; exact h.elim
  | some d =>
    rw [q] at h
    unfold slotO at q
    split at q
    · cases q
      obtain ⟨a, o, h1, h2, h3, h4, h5, h6⟩ := x.own n d (by assumption)
      dsimp only at h
      by_cases hc : isCont d = true
      · rw [if_pos hc] at h
        exact ⟨_, h1, h _ _ _ _ _ (Go.refl _ _) x ⟨a, o, rfl, h2, h3, h4, h5, h6⟩⟩
      · rw [if_neg hc] at h; exact h.elim
    · cases q
/-! ### names stored -/
theorem x_set {te : TE} {e : Expr} {n : Nat} {me : E} (hw : ∀ σ H Q, TM Γ KE (evE C ini me) σ H Q → te σ H Q) : ∀ D σ H, TSm Γ KE kd (evS C ini W (.set n me)) D σ H → tAsg te (gName n) D σ H := by
  rintro D σ H ⟨G, Hm, i, r, m, x, h⟩
  rw [evS] at h
  refine hw σ H _ ⟨G, Hm, i, r, m, x, (h.bind (σ := σ)).imp fun d r1 m1 Hm1 i1 H1 _ x1 k1 v rv => ?_⟩
  unfold Mi.setV at k1
  split at k1
  · exact k1 _ _ _ _ (Go.refl _ _) (x1.setV rv (by assumption))
  · exact k1.elim
theorem x_setO {te : TE} {n : Nat} {me : E} (hw : ∀ σ H Q, TN Γ KE (evE C ini me) σ H Q → te σ H Q) : ∀ D σ H, TSm Γ KE kd (evS C ini W (.setO n me)) D σ H → tAsg te (gName n) D σ H := by
  rintro D σ H ⟨G, Hm, i, r, m, x, h⟩
  rw [evS] at h
  refine hw σ H _ ⟨G, Hm, i, r, m, x, ?_⟩
  cases q : evE C ini me r m with
  | ok d r1 m1 =>
    rw [q] at h
    simp only [O.bind] at h
    unfold contO O.bind
    by_cases hc : isCont d = true
    · simp only [hc, if_true] at h ⊢
      by_cases hl : n < r1.length
      · rw [if_pos hl] at h
        exact fun Hm' i' H' g x' a o nw => h _ _ _ _ g (x'.setO nw hl)
      · rw [if_neg hl] at h; exact h.elim
    · simp only [hc] at h; exact h.elim
  | ex _ _ _ => rw [q] at h; exact h
  | bad => rw [q] at h; exact h.elim
theorem s_set {e : Expr} {x : Str} {n : Nat} {me : E} {p : Pos} (hN : X.N.Nodup) (hi : X.N[n]? = some x) (hx : Loc X.env.scope x) (hf : X.fn x = true ∨ X.env.scope.names.lookup x = some .local) (hs : swapsWith e (some (.Name x p)) pos.line X.env = pure false)
    (h : PE X e (TM Γ KE (evE C ini me))) : PS X (.Assign [.Name x p] e pos) (TSm Γ KE kd (evS C ini W (.set n me))) :=
  ps_weak (ps_set hN hi hx h hs hf) (x_set (e := e) fun _ _ _ q => q)
theorem s_setO {e : Expr} {x : Str} {n : Nat} {me : E} {p : Pos} (hN : X.N.Nodup) (hi : X.N[n]? = some x) (hx : Loc X.env.scope x) (hf : X.fn x = true ∨ X.env.scope.names.lookup x = some .local) (hs : swapsWith e (some (.Name x p)) pos.line X.env = pure false)
    (h : PE X e (TN Γ KE (evE C ini me))) : PS X (.Assign [.Name x p] e pos) (TSm Γ KE kd (evS C ini W (.setO n me))) :=
  ps_weak (ps_set hN hi hx h hs hf) (x_setO fun _ _ _ q => q)
/-- a source of choices becomes a location -/
theorem s_box {e : Expr} {x : Str} {n : Nat} {me : E} {p : Pos} (hN : X.N.Nodup) (hi : X.N[n]? = some x) (hx : Loc X.env.scope x) (hf : X.fn x = true ∨ X.env.scope.names.lookup x = some .local) (hs : swapsWith e (some (.Name x p)) pos.line X.env = pure false)
    (h : PE X e (TN Γ KE (evE C ini me))) : PS X (.Assign [.Name x p] e pos) (TSm Γ KE kd (evS C ini W (.box n me))) := by
  refine ps_weak (ps_set hN hi hx h hs hf) ?_
  rintro D σ H ⟨G, Hm, i, r, m, x, h⟩
  rw [evS] at h
  refine ⟨G, Hm, i, r, m, x, ?_⟩
  cases q : evE C ini me r m with
  | ok d r1 m1 =>
    rw [q] at h
    simp only [O.bind] at h
    by_cases hl : n < r1.length
    · rw [if_pos hl] at h
      cases d with
      | lst xs =>
        intro Hm' i' H' g x' a o nw
        exact h _ _ _ _ (g.trans ⟨Le.refl _, List.prefix_append _ _⟩) (x'.box nw hl)
      | _ => exact h.elim
    · rw [if_neg hl] at h; exact h.elim
  | ex _ _ _ => rw [q] at h; exact h
  | bad => rw [q] at h; exact h.elim
/-! ### flow -/
theorem ss_nil : PSs X [] (TSm Γ KE kd (evSs C ini W [])) := by
  refine pss_weak pss_nil ?_
  rintro D σ H ⟨G, Hm, i, r, m, x, h⟩
  rw [evSs] at h
  exact h.nx x
theorem ss_cons {st : Stmt} {sts : List Stmt} {s : S} {ss : List S} (h1 : PS X st (TSm Γ KE kd (evS C ini W s))) (h2 : PSs X sts (TSm Γ KE kd (evSs C ini W ss))) : PSs X (st :: sts) (TSm Γ KE kd (evSs C ini W (s :: ss))) := by
  refine pss_weak (pss_cons h1 h2) ?_
  rintro D σ H ⟨G, Hm, i, r, m, x, h⟩
  rw [evSs] at h
  refine ⟨G, Hm, i, r, m, x, ?_⟩
  cases q : evS C ini W s r m with
  | ok k r1 m1 =>
    rw [q] at h
    cases k with
    | nx => exact fun Hm' i' σ' H' g x' => ⟨G, Hm', i', r1, m1, x', AfterS.later g h⟩
    | rt d => exact h
  | ex _ _ _ => rw [q] at h; exact h
  | bad => rw [q] at h; exact h.elim
/-- a statement that is no statement of the small language (a docstring) -/
theorem ss_doc {x : Str} {j : Nat} {p : Pos} {sts : List Stmt} {ss : List S} (h2 : PSs X sts (TSm Γ KE kd (evSs C ini W ss))) : PSs X (.Expr (.Constant (.str x) j p) pos :: sts) (TSm Γ KE kd (evSs C ini W ss)) :=
  pss_weak (pss_cons ps_doc h2) fun _ _ _ h => h
theorem s_ite {c : Expr} {a b : List Stmt} {mc : E} {ma mb : List S} (hc : PT X c (TB Γ KE (evT (evE C ini mc)))) (ha : PSs X a (TSm Γ KE kd (evSs C ini W ma))) (hb : PSs X b (TSm Γ KE kd (evSs C ini W mb))) :
    PS X (.If c a b pos) (TSm Γ KE kd (evS C ini W (.ite mc ma mb))) := by
  refine ps_weak (ps_if hc ha hb) ?_
  rintro D σ H ⟨G, Hm, i, r, m, x, h⟩
  rw [evS] at h
  refine ⟨G, Hm, i, r, m, x, ?_⟩
  unfold evT
  cases q : evE C ini mc r m with
  | ok d r1 m1 =>
    rw [q] at h
    cases d with
    | bl b =>
      intro Hm' i' H' g x'
      cases b with
      | true => rw [if_pos rfl]; exact ⟨G, Hm', i', r1, m1, x', AfterS.later g h⟩
      | false => rw [if_neg Bool.false_ne_true]; exact ⟨G, Hm', i', r1, m1, x', AfterS.later g h⟩
    | _ => exact h.elim
  | ex _ _ _ => rw [q] at h; exact h
  | bad => rw [q] at h; exact h.elim
theorem s_fr {st : Stmt} {s : S} {is : List Nat} (h : PS X st (TSm Γ KE kd (evS C ini W s))) : PS X st (TSm Γ KE kd (evS C ini W (.fr is s))) := by
  refine ps_weak h ?_
  rintro D σ H ⟨G, Hm, i, r, m, x, h⟩
  rw [evS] at h
  obtain ⟨Hm', g, x'⟩ := x.freeze is
  exact ⟨G, Hm', i, _, m, x', AfterS.later g h⟩
/-- a while loop -/
theorem s_while {c : Expr} {b : List Stmt} {mc : E} {mb : List S} (hp : PassesOwn (model X.prog X.w) X.A X.env X.xe) (hc : PT X c (TB Γ KE (evT (evE C ini mc)))) (hb : PSs X b (TSm Γ KE kd (evSs C ini W mb))) :
    PS X (.While c b [] pos) (TSm Γ KE kd (evS C ini W (.while mc mb))) := by
  refine ps_weak (ps_while hp hc hb) ?_
  rintro D σ H ⟨G, Hm, i, r, m, x, h⟩
  rw [evS] at h
  refine ⟨fun k σ H => ∃ G Hm i r m, R Γ G Hm i r m σ H ∧ AfterS Γ G KE kd Hm i (loopW (evE C ini mc) (evSs C ini W mb) k r m) D, ⟨W, G, Hm, i, r, m, x, h⟩, ?_⟩
  rintro k σ H ⟨G, Hm, i, r, m, x, h⟩
  refine ⟨G, Hm, i, r, m, x, ?_⟩
  cases k with
  | zero => exact h.elim
  | succ k =>
    rw [loopW] at h
    unfold evT
    cases q : evE C ini mc r m with
    | ok d r1 m1 =>
      rw [q] at h
      cases d with
      | bl b =>
        intro Hm' i' H' g x'
        cases b with
        | false => rw [if_neg Bool.false_ne_true]; exact (AfterS.later g h).nx x'
        | true =>
          rw [if_pos rfl]
          have h := AfterS.later g h
          simp only [O.bind, truth] at h
          refine ⟨fun σ' H' => ∃ G Hm i r m, R Γ G Hm i r m σ' H' ∧ AfterS Γ G KE kd Hm i (loopW (evE C ini mc) (evSs C ini W mb) k r m) D, fun σ' H' w => ⟨k, Nat.lt_succ_self _, w⟩, G, Hm', i', r1, m1, x', ?_⟩
          cases q2 : evSs C ini W mb r1 m1 with
          | ok f r2 m2 =>
            rw [q2] at h
            cases f with
            | nx => exact fun Hm2 i2 σ2 H2 g2 x2 => ⟨G, Hm2, i2, r2, m2, x2, AfterS.later g2 h⟩
            | rt d => exact h
          | ex _ _ _ => rw [q2] at h; exact h
          | bad => rw [q2] at h; exact h.elim
      | _ => exact h.elim
    | ex _ _ _ => rw [q] at h; exact h
    | bad => rw [q] at h; exact h.elim
end
end Mi
end
section
set_option maxRecDepth 100000
/-! Mi: what loops and comprehensions walk. -/
namespace PySem
set_option maxHeartbeats 1000000 in
theorem mi_meets_enum {v : Value} {o : Obj} {H : Heap → Prop} (B : Begins v o H) :
    Meets (Builtin.«enumerate.__new__» ⟨[.type "enumerate", v], []⟩) (fun _ R s => H s.heap ∧ R (.ok (.ret (.ref (s.heap.push o).objs.size)))
      { s with heap := (s.heap.push o).push { cls := .type "enumerate", data := .fields #[.none, .bool false, .ref s.heap.objs.size, rawInt 0, .none, .none] } }) :=
  .of_wp fun prog w A R s hh => by
    obtain ⟨hp, g, d, tk, os⟩ := s
    obtain ⟨hH, h⟩ := hh
    have hsub := sub_enumerate
    have it : ∀ {A' : Around} {E : Value → Shared → Prop} {Q : Value → Shared → Prop}, Q (.ref hp.objs.size) ⟨hp.push o, g, d, tk, os⟩ → wpAny (model prog w) A' (pyIter v) Q E ⟨hp, g, d, tk, os⟩ :=
      fun z => B.iter prog w _ _ ⟨hp, g, d, tk, os⟩ _ hH z
    wp_walk
    refine wpAny_stack_any fun st => wpAny_pure ?_
    split
    · rename_i c _ _ _ _ _
      cases (c == Value.type "enumerate")
      all_goals
        wp_walk using it
        exact ⟨_, rfl, h⟩
    · wp_walk using it
      exact ⟨_, rfl, h⟩
theorem mi_enum_begins {prog : Program} {w : World} {A : Around} {E : Value → Shared → Prop} {s : Shared} {v : Value} {o : Obj} {H : Heap → Prop} {Q : Value → Shared → Prop} (B : Begins v o H) (h1 : H s.heap)
    (h : ∀ h', IsEnum h' (s.heap.objs.size + 1) s.heap.objs.size 0 .none → h'.get? s.heap.objs.size = some o → h'.objs.size = s.heap.objs.size + 2 → (∀ b u, s.heap.get? b = some u → h'.get? b = some u) →
      Q (.ref (s.heap.objs.size + 1)) { s with heap := h' }) : wpAny (model prog w) A (call (.type "enumerate") [v]) Q E s := by
  refine callType_new F.called_enumerate (by decide) (F.typeCall_enumerate_1 _) (F.newCall_enumerate_1 _) (fun obj => F.args_object_init_2 obj _) F.entry_enumerate_new (mi_meets_enum B) ⟨h1, ?_⟩
  have hz : (s.heap.push o).objs.size = s.heap.objs.size + 1 := Heap.size_push ..
  show _ ∧ _
  rw [hz]
  have he : IsEnum ((s.heap.push o).push { cls := .type "enumerate", data := .fields #[.none, .bool false, .ref s.heap.objs.size, rawInt 0, .none, .none] }) (s.heap.objs.size + 1) s.heap.objs.size 0 .none := by
    have z := Heap.get?_push_size (s.heap.push o) (o := { cls := .type "enumerate", data := .fields #[.none, .bool false, .ref s.heap.objs.size, rawInt 0, .none, .none] }) rfl
    rw [hz] at z
    exact z
  exact ⟨⟨_, he, rfl⟩, h _ he (Heap.get?_push_of_some _ (Heap.get?_push_size _ B.free)) (by rw [Heap.size_push, hz]) fun b u z => Heap.get?_push_of_some _ (Heap.get?_push_of_some _ z)⟩
end PySem

namespace Mi
open PySem L2

/-- pairs are handed out, each in a new tuple -/
def Ipair (n : Nat) (Ok : Hp → Prop) (f g : Nat → Option V) : It :=
  ⟨fun i H => i < n ∧ Ok H, fun i H v H' => ∃ T x y, v = .ref T ∧ H T = none ∧ H' = upd H T (.tup [x, y]) ∧ f i = some x ∧ g i = some y, fun i H => i = n ∧ Ok H⟩
theorem turn_pair {P : Program} {w : World} {K : PySem.W.Frag} {elts : List Expr} {kk : Nat} {tpos : Pos} {e : Addr} {own : List Addr} {tn : Nat → Heap → Prop} {n : Nat} {Ok : Hp → Prop} {f g : Nat → Option V}
    (mem : e ∈ own) (obj : ∀ i h, tn i h → ∀ b ∈ own, ∃ o, h.get? b = some o ∧ ∀ v, o.data ≠ .cell v) (keep : ∀ i h h', tn i h → (∀ b ∈ own, ∀ o, h.get? b = some o → h'.get? b = some o) → tn i h')
    (self : ∀ (A : Around) (i : Nat) (s : Shared) (Q : Value → Shared → Prop) (E : Value → Shared → Prop), tn i s.heap → Q (.ref e) s → wpAny (model P w) A (pyIter (.ref e)) Q E s)
    (gs : ∀ (X : Cx), X.prog = P → X.w = w → X.K = K → X.calm = true → ∀ (i : Nat) (pins : List (Addr × Obj)) (s : Shared) (σ : St) (H : Hp), Inv X pins σ H s → tn i s.heap → Ok H →
      ∃ fp wr Y Sx, GoesN P w X.A (.Tuple elts kk tpos) e fp wr n Y Sx ∧ Sx i s.heap ∧ (∀ b ∈ wr, b ∈ own) ∧ (∀ h, Sx (i + 1) h → tn (i + 1) h) ∧
        ∀ v h, Y i s.heap v h → ∃ T u1 u2 x y, v = .ref T ∧ s.heap.objs.size ≤ T ∧ f i = some x ∧ RelV x u1 ∧ g i = some y ∧ RelV y u2 ∧ h.IsTuple T #[u1, u2]) :
    Turn P w K (.Tuple elts kk tpos) (Ipair n Ok f g) own e tn where
  mem := mem
  obj := obj
  keep := keep
  item := by
    intro X hP hw hK hc i pins s σ H E I hf st hg
    obtain ⟨fp, wr, Y, Sx, gn, sx, hwr, hnx, hY⟩ := gs X hP hw hK hc i pins s σ H I st hg.2
    subst hP hw hK
    refine thn (gn.goes i s (fun v s2 => ∃ x H', Inv X pins σ H' s2 ∧ RelV x v ∧ (Ipair n Ok f g).yld i H x H' ∧ tn (i + 1) s2.heap ∧ ∀ b ∈ own, H' b = none) E hg.1 sx fun v h' tk y sx' k _ => ?_) fun r s1 hr => hr
    obtain ⟨T, u1, u2, x, y', rfl, hT, hx, rx, hy, ry, ht⟩ := hY _ _ y
    have hown : ∀ b ∈ own, b < s.heap.objs.size := fun b hb => let ⟨o, q, _⟩ := obj i _ st b hb; Heap.lt_size q
    have I1 : Inv X pins σ (upd H T (.tup [x, y'])) { s with heap := h', toks := tk } :=
      I.turnedNew (ch := own) (fun b o hb q => k b o (fun z => hb (hwr b z)) q) hf hT ⟨by show 2 ≤ sizeLine; decide, [u1, u2], .cons rx (.cons ry .nil), ht⟩
    refine ⟨.ref T, _, I1, rfl, ⟨T, x, y', rfl, I.hok.fresh hT, rfl, hx, hy⟩, hnx _ sx', fun b hb => ?_⟩
    rw [upd_ne (Nat.ne_of_lt (Nat.lt_of_lt_of_le (hown b hb) hT))]
    exact (hf b hb).1
  done := by
    intro X hP hw hK hc i pins s σ H E I hf st hg
    obtain ⟨hi, hok⟩ := hg
    subst hi
    obtain ⟨fp, wr, Y, Sx, gn, sx, hwr, _, _⟩ := gs X hP hw hK hc _ pins s σ H I st hok
    subst hP hw hK
    refine gn.stops s (fun s1 => Inv X pins σ H s1) E sx fun h' tk k _ => ?_
    refine I.step (g' := s.gens) (d' := s.drawn) (ch := own) (fun b hb => ⟨(hf b hb).2.2.2.1, (hf b hb).2.1, (hf b hb).2.2.2.2.1, (hf b hb).2.2.2.2.2⟩) (fun b o _ _ hc e _ => k b o (fun z => hc (hwr b z)) e) (fun b o _ _ hc e _ => ⟨o.slots, k b o (fun z => hc (hwr b z)) e⟩)
      (fun _ _ _ _ n => n) (fun b o hc e => ⟨o, k b o (fun z => hc (hwr b z)) e⟩) (fun _ _ e => e) (fun _ _ _ e => e) (fun b ps e => ⟨#[], by rw [e]; simp⟩) (fun m hm => ?_) (fun b u e => ?_) I.bare
    · obtain ⟨o, es, ep, ho, r⟩ := hm
      exact ⟨o, es, ep, k _ o (fun z => (hf _ (hwr _ z)).2.1 rfl) ho, r⟩
    · have nit : ∀ c v, H c = some v → c ∉ wr := fun c v e z => by rw [(hf c (hwr c z)).1] at e; cases e
      refine (I.hok b u e).stay (fun c v hc q => k c v ?_ q) (fun _ q => q) fun _ _ q => q
      rcases hc with z | z
      · rw [z]; exact nit b u e
      · exact nit c _ z
  self := self

/-- a row: a list (l) or a tuple -/
def RowL (l : Bool) (K : PySem.W.Frag) (H : Hp) (a : Addr) (xs : List V) : Prop := match l with
  | true => SqL K H a xs
  | false => SqT K H a xs
def RIt (l : Bool) (h : Heap) (it a : Addr) (i : Nat) : Prop := match l with
  | true => h.IsListIter it a i
  | false => h.IsTupleIter it a i
def RAt (l : Bool) (h : Heap) (a : Addr) (items : Array Value) : Prop := match l with
  | true => h.IsList a items
  | false => h.IsTuple a items
theorem RowL.le {l : Bool} {K : PySem.W.Frag} {H H' : Hp} (z : Le H H') {a : Addr} {xs : List V} (h : RowL l K H a xs) : RowL l K H' a xs := by
  cases l
  · exact SqT.le z h
  · exact SqL.le z h
theorem RowL.look {X : Cx} {pins : List (Addr × Obj)} {σ : St} {H : Hp} {s : Shared} (I : Inv X pins σ H s) {l : Bool} {a : Addr} {xs : List V} (h : RowL l X.K H a xs) : ∃ its : List Value, Vals xs its ∧ RAt l s.heap a its.toArray ∧ a < s.heap.objs.size ∧ xs.length ≤ sizeLine := by
  cases l
  · obtain ⟨its, r, p, z⟩ := I.tuple h
    exact ⟨its, r, p, p.lt, z⟩
  · obtain ⟨its, r, p, z⟩ := I.list h
    exact ⟨its, r, p.isList, p.lt, z⟩
def rowIter (l : Bool) (a : Addr) : Obj := match l with
  | true => { cls := .type "list_iterator", data := .fields #[.ref a, .int 0 0] }
  | false => { cls := .type "tuple_iterator", data := .fields #[.ref a, .int 0 0] }
theorem row_begins (l : Bool) (a : Addr) (items : Array Value) : Begins (.ref a) (rowIter l a) fun h => RAt l h a items := by
  cases l
  · exact begins_tuple a items
  · exact begins_list a items
theorem row_draws {prog : Program} {w : World} {A : Around} (hh : A.handled = none) (l : Bool) (it a : Addr) (hne : a ≠ it) (items : Array Value) :
    Draws prog w A it [it, a] items.size (fun i v => items[i]? = some v) (fun i h => RIt l h it a i ∧ RAt l h a items) := by
  cases l
  · exact Draws.tuple hh it a hne items
  · exact Draws.list hh it a hne items
theorem RIt.begin {l : Bool} {h : Heap} {it a : Addr} (e : h.get? it = some (rowIter l a)) : RIt l h it a 0 := by
  cases l
  · exact ⟨_, e, rfl, rfl⟩
  · exact ⟨_, e, rfl, rfl⟩
theorem RIt.obj {l : Bool} {h : Heap} {it a : Addr} {i : Nat} (e : RIt l h it a i) : ∃ o, h.get? it = some o ∧ ∀ v, o.data ≠ .cell v := by
  cases l
  all_goals
    obtain ⟨o, h1, _, h3⟩ := e
    exact ⟨o, h1, fun v z => by rw [h3] at z; cases z⟩
theorem RIt.keep {l : Bool} {h h' : Heap} {it a : Addr} {i : Nat} (e : RIt l h it a i) (k : ∀ o, h.get? it = some o → h'.get? it = some o) : RIt l h' it a i := by
  cases l
  all_goals
    obtain ⟨o, h1, h2⟩ := e
    exact ⟨o, k o h1, h2⟩

section
variable {X : Cx} {tg : Expr}
theorem turn_enumM {P : Program} {w : World} {K : PySem.W.Frag} {elts : List Expr} {kk : Nat} {tpos : Pos} {l : Bool} {a it e : Addr} {xs : List V} (h1 : a < it) (h2 : it < e) :
    Turn P w K (.Tuple elts kk tpos) (Ipair xs.length (fun H => RowL l K H a xs) (fun i => some (.int (i : Nat))) fun i => xs[i]?) [e, it] e (fun i h => (∃ old, IsEnum h e it ((0 : Int) + (i : Nat)) old) ∧ RIt l h it a i) := by
  refine turn_pair (by simp) (fun i h st b hb => ?_) (fun i h h' st k => ⟨?_, st.2.keep fun o q => k it (by simp) o q⟩) (fun A i s Q E st h => let ⟨⟨_, he⟩, _⟩ := st; wpAny_pyIter_enum he h) ?_
  · have z : b = e ∨ b = it := by simpa using hb
    rcases z with rfl | rfl
    · obtain ⟨⟨_, he⟩, _⟩ := st
      exact ⟨_, he, fun v q => nomatch q⟩
    · exact st.2.obj
  · obtain ⟨⟨old, he⟩, _⟩ := st
    exact ⟨old, k e (by simp) _ he⟩
  · intro X hP hw hK hc i pins s σ H I st hrow
    subst hP hw hK
    obtain ⟨its, rv, rat, _, _⟩ := RowL.look I hrow
    have hlen : its.toArray.size = xs.length := by rw [List.size_toArray]; exact rv.length.symm
    have G := GoesN.enumFrom (prog := X.prog) (w := X.w) (A := X.A) (elts := elts) (x1 := kk) (pos := tpos) 0 (row_draws (A := X.A.in1) (prog := X.prog) (w := X.w) (I.ok.hd hc) l it a (Nat.ne_of_lt h1) its.toArray) e (Nat.ne_of_gt h2) (by simp; exact ⟨Nat.ne_of_gt h2, Nat.ne_of_gt (Nat.lt_trans h1 h2)⟩) (by simp)
    rw [hlen] at G
    refine ⟨_, _, _, _, G, ⟨st.1, st.2, rat⟩, fun b hb => hb, fun h q => ⟨q.1, q.2.1⟩, fun v h y => ?_⟩
    obtain ⟨T, t, u, rfl, hT, hu, ht⟩ := y
    obtain ⟨x, hx, rx⟩ : ∃ x, xs[i]? = some x ∧ RelV x u := by
      have hlt : i < xs.length := by
        rw [← hlen]
        exact (Array.getElem?_eq_some_iff.mp hu).1
      obtain ⟨u', e1, r1⟩ := rv.get (i := i) (x := xs[i]) (by simp [hlt])
      have : u' = u := by
        have z : its[i]? = some u := by simpa using hu
        rw [e1] at z
        exact Option.some.inj z
      subst this
      exact ⟨xs[i], by simp [hlt], r1⟩
    exact ⟨T, _, _, .int (i : Nat), x, rfl, hT, rfl, ⟨t, by rw [Int.zero_add]⟩, hx, rx, ht⟩
def iEnumM (K : PySem.W.Frag) (ta : L2.TA) : TI := fun σ H Rr => ta σ H fun vs H1 => ∃ l a xs, vs = [.ref a] ∧ RowL l K H1 a xs ∧ Rr (Ipair xs.length (fun H => RowL l K H a xs) (fun i => some (.int (i : Nat))) fun i => xs[i]?) H1
theorem pi_enumM {e : Expr} {ta : L2.TA} {p pos tpos : Pos} {elts : List Expr} {kk : Nat} (hg : Gl X "enumerate") (hm : X.mg "enumerate" = none) (ha : PA X [e] ta) (hs : starEach [e] X.env = [(false, eval e X.env)]) :
    PI X (.Tuple elts kk tpos) (.Call (.Name "enumerate" p) [e] [] pos) (iEnumM X.K ta) := by
  refine ⟨fun pins s σ H Rr I h => ?_⟩
  refine PyProof.Rows.Call_ (ld_blt I hg hm PyProof.Rows.boot_enumerate (PyProof.Rows.callWith_type1 (thn (ha.run pos pins s σ H _ I h) fun us s1 ⟨vs, H1, I1, r1, q1⟩ => ?_) hs rfl))
  obtain ⟨l, a, xs, ex, hq, q⟩ := q1
  subst ex
  obtain ⟨u, rfl, rx⟩ := vals1 r1
  cases rx
  obtain ⟨its, rv, rat, hlt, _⟩ := RowL.look I1 hq
  refine mi_enum_begins (row_begins l a its.toArray) rat fun h' he hit hsz hk => wpAny_pyIter_enum he ?_
  refine ⟨s1.heap.objs.size + 1, [s1.heap.objs.size + 1, s1.heap.objs.size], _, _, H1, rfl, I1.kept (t' := s1.toks) hk, turn_enumM (l := l) (a := a) (xs := xs) hlt (Nat.lt_succ_self _), ⟨⟨.none, by rw [show ((0 : Int) + ((0 : Nat) : Int)) = 0 from rfl]; exact he⟩, RIt.begin hit⟩, fun b hb => ?_, q⟩
  have z : b = s1.heap.objs.size + 1 ∨ b = s1.heap.objs.size := by simpa using hb
  have hle : s1.heap.objs.size ≤ b := by
    rcases z with z | z <;> (subst z; first | exact Nat.le_succ _ | exact Nat.le_refl _)
  exact I1.fpOk hle (I1.hok.fresh hle)
theorem turn_zipM {P : Program} {w : World} {K : PySem.W.Frag} {elts : List Expr} {kk : Nat} {tpos : Pos} {l1 l2 : Bool} {a b N : Addr} {xs ys : List V} (h1 : a < N) (h2 : b < N) :
    Turn P w K (.Tuple elts kk tpos) (Ipair (min xs.length ys.length) (fun H => RowL l1 K H a xs ∧ RowL l2 K H b ys) (fun i => xs[i]?) fun i => ys[i]?) [N + 4, N + 2, N + 3, N, N + 1] (N + 4)
      (fun i h => IsZip h (N + 4) (N + 2) (N + 3) .none ∧ IsTupOf2 h (N + 2) (.ref N) (.ref (N + 1)) ∧ (∃ a1 a2, IsTupOf2 h (N + 3) a1 a2) ∧ RIt l1 h N a i ∧ RIt l2 h (N + 1) b i) := by
  refine turn_pair (by simp) (fun i h st c hb => ?_) (fun i h h' st k => ?_) (fun A i s Q E st h => wpAny_pyIter_zip st.1 h) ?_
  · obtain ⟨z1, z2, ⟨_, _, z3⟩, z4, z5⟩ := st
    have z : c = N + 4 ∨ c = N + 2 ∨ c = N + 3 ∨ c = N ∨ c = N + 1 := by simpa using hb
    rcases z with rfl | rfl | rfl | rfl | rfl
    · exact ⟨_, z1, fun v q => nomatch q⟩
    · exact ⟨_, z2, fun v q => nomatch q⟩
    · exact ⟨_, z3, fun v q => nomatch q⟩
    · exact z4.obj
    · exact z5.obj
  · obtain ⟨z1, z2, ⟨a1, a2, z3⟩, z4, z5⟩ := st
    exact ⟨k _ (by simp) _ z1, k _ (by simp) _ z2, ⟨a1, a2, k _ (by simp) _ z3⟩, z4.keep fun o q => k _ (by simp) o q, z5.keep fun o q => k _ (by simp) o q⟩
  · intro X hP hw hK hc i pins s σ H I st hrow
    subst hP hw hK
    obtain ⟨its, rv, rat, _, _⟩ := RowL.look I hrow.1
    obtain ⟨its2, rv2, rat2, _, _⟩ := RowL.look I hrow.2
    have hlen : its.toArray.size = xs.length := by rw [List.size_toArray]; exact rv.length.symm
    have hlen2 : its2.toArray.size = ys.length := by rw [List.size_toArray]; exact rv2.length.symm
    have G := GoesN.zip2 (prog := X.prog) (w := X.w) (A := X.A) (elts := elts) (x1 := kk) (pos := tpos) (zip_sep2 (N := N) (fp1 := [a]) (fp2 := [b]) (by simp; exact h1) (by simp; exact h2))
      (row_draws (A := X.A.in1) (prog := X.prog) (w := X.w) (I.ok.hd hc) l1 N a (Nat.ne_of_lt h1) its.toArray) (row_draws (A := X.A.in1) (prog := X.prog) (w := X.w) (I.ok.hd hc) l2 (N + 1) b (Nat.ne_of_lt (Nat.lt_succ_of_lt h2)) its2.toArray)
    rw [hlen, hlen2] at G
    refine ⟨_, _, _, _, G, ⟨st.1, st.2.1, st.2.2.1, ⟨st.2.2.2.1, rat⟩, ⟨st.2.2.2.2, rat2⟩⟩, fun c hc => ?_, fun h q => ⟨q.1, q.2.1, q.2.2.1, q.2.2.2.1.1, q.2.2.2.2.1⟩, fun v h y => ?_⟩
    · simp only [List.mem_cons, List.not_mem_nil, or_false] at hc ⊢
      rcases hc with z | z | z | z <;> simp [z]
    · obtain ⟨T, u, u2, rfl, hT, hu, hu2, ht⟩ := y
      have pick : ∀ {zs : List V} {is : List Value} {u : Value}, Vals zs is → is.toArray[i]? = some u → ∃ x, zs[i]? = some x ∧ RelV x u := by
        intro zs is u r hu
        have z : is[i]? = some u := by simpa using hu
        have hlt : i < zs.length := by rw [r.length]; exact getsome z
        obtain ⟨u', e1, r1⟩ := r.get (i := i) (x := zs[i]) (by simp [hlt])
        rw [e1] at z
        cases z
        exact ⟨zs[i], by simp [hlt], r1⟩
      obtain ⟨x, hx, rx⟩ := pick rv hu
      obtain ⟨y, hy, ry⟩ := pick rv2 hu2
      exact ⟨T, u, u2, x, y, rfl, hT, hx, rx, hy, ry, ht⟩
def iZipM (K : PySem.W.Frag) (ta : L2.TA) : TI := fun σ H Rr => ta σ H fun vs H1 => ∃ l1 l2 a b xs ys, vs = [.ref a, .ref b] ∧ RowL l1 K H1 a xs ∧ RowL l2 K H1 b ys ∧ Rr (Ipair (min xs.length ys.length) (fun H => RowL l1 K H a xs ∧ RowL l2 K H b ys) (fun i => xs[i]?) fun i => ys[i]?) H1
theorem pi_zipM {e e2 : Expr} {ta : L2.TA} {p pos tpos : Pos} {elts : List Expr} {kk : Nat} (hg : Gl X "zip") (hm : X.mg "zip" = none) (ha : PA X [e, e2] ta)
    (hs : starEach [e, e2] X.env = (false, eval e X.env) :: starEach [e2] X.env) (hpl : (backTo pos (starEach [e2] X.env)).any (·.1) = false) :
    PI X (.Tuple elts kk tpos) (.Call (.Name "zip" p) [e, e2] [] pos) (iZipM X.K ta) := by
  refine ⟨fun pins s σ H Rr I h => ?_⟩
  refine PyProof.Rows.Call_ (ld_blt I hg hm PyProof.Rows.boot_zip (PyProof.Rows.callWith_type1 (thn (ha.run pos pins s σ H _ I h) fun us s1 ⟨vs, H1, I1, r1, q1⟩ => ?_) hs hpl))
  obtain ⟨l1, l2, a, b, xs, ys, ex, hq, hq2, q⟩ := q1
  subst ex
  obtain ⟨u, u', rfl, rx, rx'⟩ := vals2 r1
  cases rx; cases rx'
  obtain ⟨its, rv, rat, hlt, _⟩ := RowL.look I1 hq
  obtain ⟨its2, rv2, rat2, hlt2, _⟩ := RowL.look I1 hq2
  refine zip_begins2 (row_begins l1 a its.toArray) (row_begins l2 b its2.toArray) rat rat2 fun h' hz hTI hTO h1 h2 hsz hk => wpAny_pyIter_zip hz ?_
  refine ⟨s1.heap.objs.size + 4, [s1.heap.objs.size + 4, s1.heap.objs.size + 2, s1.heap.objs.size + 3, s1.heap.objs.size, s1.heap.objs.size + 1], _, _, H1, rfl, I1.kept (t' := s1.toks) hk, turn_zipM (l1 := l1) (l2 := l2) (a := a) (b := b) (xs := xs) (ys := ys) hlt hlt2,
    ⟨hz, hTI, ⟨_, _, hTO⟩, RIt.begin h1, RIt.begin h2⟩, fun c hb => ?_, q⟩
  have z : c = s1.heap.objs.size + 4 ∨ c = s1.heap.objs.size + 2 ∨ c = s1.heap.objs.size + 3 ∨ c = s1.heap.objs.size ∨ c = s1.heap.objs.size + 1 := by simpa using hb
  have hle : s1.heap.objs.size ≤ c := by
    rcases z with z | z | z | z | z <;> (subst z; first | exact Nat.le_refl _ | exact Nat.le_add_right _ _)
  exact I1.fpOk hle (I1.hok.fresh hle)
/-- what may be walked item by item: a list, a tuple, a text -/
def iSeqM (K : PySem.W.Frag) (te : TE) : TI := fun σ H Rr => te σ H fun v H1 => (∃ a xs, v = .ref a ∧ SqL K H1 a xs ∧ Rr (Itl K a) H1) ∨ (∃ a xs, v = .ref a ∧ SqT K H1 a xs ∧ Rr (Itt K a) H1) ∨ ∃ z, v = .str z ∧ Rr (Its z) H1
theorem pi_seqM {e : Expr} {te : TE} (he : PE X e te) : PI X tg e (iSeqM X.K te) := by
  refine ⟨fun pins s σ H Rr I h => ?_⟩
  refine thn (he.run pins s σ H _ I h) fun v s1 ⟨x, H1, I1, r1, q1⟩ => ?_
  rcases q1 with ⟨a, xs, rfl, hq, q⟩ | ⟨a, xs, rfl, hq, q⟩ | ⟨z, rfl, q⟩
  · cases r1
    obtain ⟨its, rv, p, _⟩ := I1.list hq
    refine wpAny_pyIter_list p.isList ⟨s1.heap.objs.size, [s1.heap.objs.size], _, _, H1, rfl, I1.kept (t' := s1.toks) fun b o e => Heap.get?_push_of_some _ e, turn_list a _, ⟨_, Heap.get?_push_size _ rfl, rfl, rfl⟩, fun b hb => ?_, q⟩
    obtain rfl : b = s1.heap.objs.size := by simpa using hb
    exact I1.fpOk (Nat.le_refl _) (I1.hok.fresh (Nat.le_refl _))
  · cases r1
    obtain ⟨its, rv, p, _⟩ := I1.tuple hq
    refine wpAny_pyIter_tuple (show s1.heap.IsTuple a its.toArray from p) ⟨s1.heap.objs.size, [s1.heap.objs.size], _, _, H1, rfl, I1.kept (t' := s1.toks) fun b o e => Heap.get?_push_of_some _ e, turn_tuple a _, ⟨_, Heap.get?_push_size _ rfl, rfl, rfl⟩, fun b hb => ?_, q⟩
    obtain rfl : b = s1.heap.objs.size := by simpa using hb
    exact I1.fpOk (Nat.le_refl _) (I1.hok.fresh (Nat.le_refl _))
  · obtain ⟨t, rfl⟩ := r1
    have fresh : ∀ b ∈ [s1.heap.objs.size], FpOk X pins H1 b := fun b hb => by
      obtain rfl : b = s1.heap.objs.size := by simpa using hb
      exact I1.fpOk (Nat.le_refl _) (I1.hok.fresh (Nat.le_refl _))
    cases ha : z.cps.all (· < 128)
    · exact wpAny_pyIter_wide ha ⟨s1.heap.objs.size, [s1.heap.objs.size], _, _, H1, rfl, I1.kept (t' := s1.toks) fun b o e => Heap.get?_push_of_some _ e, turn_str _ z t "str_iterator" (.inr rfl), ⟨_, Heap.get?_push_size _ rfl, rfl, rfl⟩, fresh, q⟩
    · exact wpAny_pyIter_ascii ha ⟨s1.heap.objs.size, [s1.heap.objs.size], _, _, H1, rfl, I1.kept (t' := s1.toks) fun b o e => Heap.get?_push_of_some _ e, turn_str _ z t "str_ascii_iterator" (.inl rfl), ⟨_, Heap.get?_push_size _ rfl, rfl, rfl⟩, fresh, q⟩
end
end Mi
end
section
set_option maxRecDepth 100000
/-! Mi: targets, loops over what is walked. -/
namespace Mi
open PySem L2

/-! ### targets -/
mutual
def T.sl : T → List Nat
  | .s i => [i]
  | .t ts => slts ts
def slts : List T → List Nat
  | [] => []
  | t :: ts => T.sl t ++ slts ts
end
def Off {α : Type} (vs : List Nat) (a b : List α) : Prop := a.length = b.length ∧ ∀ n, n ∉ vs → a[n]? = b[n]?
theorem Off.refl {α : Type} (vs : List Nat) (a : List α) : Off vs a a := ⟨rfl, fun _ _ => rfl⟩
theorem Off.trans {α : Type} {vs : List Nat} {a b c : List α} (h : Off vs a b) (k : Off vs b c) : Off vs a c := ⟨h.1.trans k.1, fun n hn => (h.2 n hn).trans (k.2 n hn)⟩
theorem Off.mono {α : Type} {vs ws : List Nat} {a b : List α} (h : Off vs a b) (s : ∀ n ∈ vs, n ∈ ws) : Off ws a b := ⟨h.1, fun n hn => h.2 n fun z => hn (s n z)⟩
theorem Off.set {α : Type} {a : List α} {n : Nat} {x : α} : Off [n] a (a.set n x) := ⟨by simp, fun k hk => by rw [List.getElem?_set_ne (fun z => hk (by simp [z]))]⟩
mutual
theorem assign_off : ∀ (t : T) (d : D) (r r' : List Sl), assignT t d r = some r' → Off t.sl r r'
  | .s i, d, r, r', h => by
    unfold assignT at h
    split at h
    · cases h
    · cases h; exact Off.set
    · cases h
  | .t ts, d, r, r', h => by
    cases d <;> first | (simp [assignT] at h; done) | exact assigns_off ts _ r r' h
theorem assigns_off : ∀ (ts : List T) (ds : List D) (r r' : List Sl), assignTs ts ds r = some r' → Off (slts ts) r r'
  | [], [], r, r', h => by cases h; exact Off.refl _ _
  | t :: ts, d :: ds, r, r', h => by
    have h : (assignT t d r).bind (assignTs ts ds) = some r' := h
    cases e : assignT t d r with
    | none => rw [e] at h; cases h
    | some r1 =>
      rw [e] at h
      refine ((assign_off t d r r1 e).mono fun n hn => ?_).trans ((assigns_off ts ds r1 r' h).mono fun n hn => ?_)
      · exact List.mem_append_left _ hn
      · exact List.mem_append_right _ hn
  | [], _ :: _, r, r', h => by cases h
  | _ :: _, [], r, r', h => by cases h
end
theorem wipe_len (r : List Sl) : ∀ vs : List Nat, (wipe r vs).length = r.length
  | [] => rfl
  | v :: vs => by unfold wipe; rw [List.length_set, wipe_len r vs]
theorem wipe_in (r : List Sl) {n : Nat} : ∀ {vs : List Nat}, n ∈ vs → n < r.length → (wipe r vs)[n]? = some .un
  | v :: vs, h, hl => by
    unfold wipe
    by_cases e : v = n
    · subst e; rw [List.getElem?_set_self (by rw [wipe_len]; exact hl)]
    · rw [List.getElem?_set_ne e]
      exact wipe_in r (by simpa [Ne.symm e] using h) hl
theorem wipe_out (r : List Sl) {n : Nat} : ∀ {vs : List Nat}, n ∉ vs → (wipe r vs)[n]? = r[n]?
  | [], _ => rfl
  | v :: vs, h => by
    unfold wipe
    rw [List.getElem?_set_ne (fun e => h (by simp [e]))]
    exact wipe_out r fun z => h (List.mem_cons_of_mem _ z)
theorem wipe_off {r r' : List Sl} {vs : List Nat} (h : Off vs r r') : wipe r' vs = wipe r vs := by
  apply List.ext_getElem?
  intro n
  by_cases hn : n ∈ vs
  · by_cases hl : n < r.length
    · rw [wipe_in r hn hl, wipe_in r' hn (by rw [← h.1]; exact hl)]
    · rw [List.getElem?_eq_none (by rw [wipe_len, ← h.1]; omega), List.getElem?_eq_none (by rw [wipe_len]; omega)]
  · rw [wipe_out r hn, wipe_out r' hn, h.2 n hn]
theorem wipe_idem (r : List Sl) (vs : List Nat) : wipe (wipe r vs) vs = wipe r vs := by
  refine wipe_off ⟨(wipe_len r vs).symm, fun n hn => (wipe_out r hn).symm⟩
theorem lwipe_in (σ : St) {n : Nat} : ∀ {vs : List Nat}, n ∈ vs → n < σ.length → (L2.wipe σ vs)[n]? = some none
  | v :: vs, h, hl => by
    unfold L2.wipe
    by_cases e : v = n
    · subst e; rw [List.getElem?_set_self (by rw [L2.wipe_length]; exact hl)]
    · rw [List.getElem?_set_ne e]
      exact lwipe_in σ (by simpa [Ne.symm e] using h) hl
theorem lwipe_off {r r' : St} {vs : List Nat} (h : Off vs r r') : L2.wipe r' vs = L2.wipe r vs := by
  apply List.ext_getElem?
  intro n
  by_cases hn : n ∈ vs
  · by_cases hl : n < r.length
    · rw [lwipe_in r hn hl, lwipe_in r' hn (by rw [← h.1]; exact hl)]
    · rw [List.getElem?_eq_none (by rw [L2.wipe_length, ← h.1]; omega), List.getElem?_eq_none (by rw [L2.wipe_length]; omega)]
  · rw [L2.wipe_out hn, L2.wipe_out hn, h.2 n hn]
theorem lwipe_idem (σ : St) (vs : List Nat) : L2.wipe (L2.wipe σ vs) vs = L2.wipe σ vs :=
  lwipe_off ⟨(L2.wipe_length σ vs).symm, fun n hn => (L2.wipe_out hn).symm⟩

section
variable {Γ : Glo} {G : Act} {Hm H Hm' H' : Hp} {i i' : List Addr} {r : List Sl} {m m' : List D} {σ : St}
theorem R.wipe (x : R Γ G Hm i r m σ H) (vs : List Nat) : R Γ G Hm i (wipe r vs) m (L2.wipe σ vs) H := by
  have key : ∀ {n : Nat} {s : Sl}, s ≠ .un → (Mi.wipe r vs)[n]? = some s → n ∉ vs ∧ r[n]? = some s := fun {n s} hs h => by
    have hn : n ∉ vs := fun z => by
      by_cases hl : n < r.length
      · rw [wipe_in r z hl] at h; exact hs (Option.some.inj h).symm
      · rw [List.getElem?_eq_none (by rw [wipe_len]; omega)] at h; cases h
    exact ⟨hn, by rw [wipe_out r hn] at h; exact h⟩
  refine ⟨x.sub, by rw [L2.wipe_length, wipe_len, x.len], fun n d h => ?_, fun n d h => ?_, fun n k d e a hnk h1 h2 h3 => ?_, x.loc, x.locl, x.locd, x.keep, x.new, x.old, x.pre, x.locn⟩
  · obtain ⟨hn, h⟩ := key (by simp) h
    obtain ⟨v, h1, h2⟩ := x.val n d h
    exact ⟨v, by rw [L2.wipe_out hn]; exact h1, h2⟩
  · obtain ⟨hn, h⟩ := key (by simp) h
    obtain ⟨a, o, h1, h2⟩ := x.own n d h
    exact ⟨a, o, by rw [L2.wipe_out hn]; exact h1, h2⟩
  · obtain ⟨hn, h1⟩ := key (by simp) h1
    obtain ⟨hk, h2⟩ := key (by simp) h2
    rw [L2.wipe_out hn] at h3
    rw [L2.wipe_out hk]
    exact x.apart n k d e a hnk h1 h2 h3
/-- the frame's slots as they were -/
theorem R.back {vs : List Nat} (x : R Γ G Hm i r m σ H) (y : R Γ G Hm' i' (Mi.wipe r vs) m' (L2.wipe σ vs) H') (g : Go Hm i Hm' i') (no : noOwn r vs = true) : R Γ G Hm' i' r m' σ H' := by
  have key : ∀ {n : Nat} {d : D}, r[n]? = some (.o d) → n ∉ vs := fun {n d} h z => by
    have q := List.all_eq_true.mp no n z
    rw [h] at q
    cases q
  refine ⟨y.sub, x.len, fun n d h => ?_, fun n d h => ?_, x.apart, y.loc, y.locl, y.locd, y.keep, y.new, y.old, y.pre, y.locn⟩
  · obtain ⟨v, h1, h2⟩ := x.val n d h
    exact ⟨v, h1, h2.go g⟩
  · have hn := key h
    obtain ⟨a, o, h1, h2⟩ := y.own n d (by rw [wipe_out r hn]; exact h)
    exact ⟨a, o, by rw [L2.wipe_out hn] at h1; exact h1, h2⟩
/-- a new object, frozen -/
theorem NewAt.frz {a : Addr} {o : HO} {d : D} (x : R Γ G Hm i r m σ H) (n : NewAt Γ G Hm i r σ H a o d) : R Γ G (upd Hm a o) i r m σ H ∧ Rep Γ (upd Hm a o) i (.ref a) d ∧ Go Hm i (upd Hm a o) i := by
  have g : Go Hm i (upd Hm a o) i := Go.froz n.hm o
  refine ⟨⟨fun b v h => ?_, x.len, fun k e h => ?_, fun k e h => ?_, x.apart, fun k e h => ?_, x.locl, x.locd, x.keep, fun b v h => ?_, x.old.trans g.hm, x.pre, x.locn⟩, n.con.freeze n.hm, g⟩
  · by_cases hb : b = a
    · subst hb; rw [upd_same] at h; cases h; exact n.at_
    · rw [upd_ne hb] at h; exact x.sub b v h
  · obtain ⟨y, q1, q2⟩ := x.val k e h
    exact ⟨y, q1, q2.go g⟩
  · obtain ⟨b, v, q1, q2, q3, q4, q5, q6⟩ := x.own k e h
    have : b ≠ a := fun w => by subst w; exact n.ap k e h q1
    exact ⟨b, v, q1, q2, by rw [upd_ne this]; exact q3, q4, q5, q6.le g.hm g.pre⟩
  · obtain ⟨b, v, q1, q2, q3, q4⟩ := x.loc k e h
    have : b ≠ a := fun w => by subst w; exact n.ni (List.mem_of_getElem? q1)
    exact ⟨b, v, q1, q2, by rw [upd_ne this]; exact q3, q4.le g.hm g.pre⟩
  · by_cases hb : b = a
    · subst hb; exact .inr n.h0
    · rw [upd_ne hb] at h; exact x.new b v h
end

section
variable {X : Cx} {Γ : Glo} {KE : KEt} {kd : Kd} {C : Nat → List D → List D → CO} {ini : Str → Option Nat} {W : Nat} {pos : Pos}
def TGm (Γ : Glo) (t : T) : TG := fun v σ H Q => ∃ G Hm i r r' m d, R Γ G Hm i r m σ H ∧ Rep Γ Hm i v d ∧ assignT t d r = some r' ∧ ∀ σ', R Γ G Hm i r' m σ' H → Off t.sl σ σ' → Q σ' H
def TGsm (Γ : Glo) (ts : List T) : TGs := fun vs σ H Q => ∃ G Hm i r r' m ds, R Γ G Hm i r m σ H ∧ Reps Γ Hm i vs ds ∧ assignTs ts ds r = some r' ∧ ∀ σ', R Γ G Hm i r' m σ' H → Off (slts ts) σ σ' → Q σ' H
theorem pg_weak {e : Expr} {t t' : TG} (h : PG X e t) (w : ∀ v σ H Q, t' v σ H Q → t v σ H Q) : PG X e t' := ⟨fun pins s σ H v u Q I r q => h.run pins s σ H v u Q I r (w v σ H Q q)⟩
theorem pgs_weak {e : List Expr} {t t' : TGs} (h : PGs X e t) (w : ∀ v σ H Q, t' v σ H Q → t v σ H Q) : PGs X e t' := ⟨fun pins s σ H v u Q I r q => h.run pins s σ H v u Q I r (w v σ H Q q)⟩
theorem pg_or {e : Expr} {t t' : TG} (h : PG X e t) (h' : PG X e t') : PG X e fun v σ H Q => t v σ H Q ∨ t' v σ H Q := ⟨fun pins s σ H v u Q I r q => q.elim (h.run pins s σ H v u Q I r) (h'.run pins s σ H v u Q I r)⟩
theorem pi_weak {tg e : Expr} {t t' : TI} (h : PI X tg e t) (w : ∀ σ H Q, t' σ H Q → t σ H Q) : PI X tg e t' := ⟨fun pins s σ H Q I q => h.run pins s σ H Q I (w σ H Q q)⟩
theorem g_name {n : Nat} {x : Str} (hN : X.N.Nodup) (hi : X.N[n]? = some x) (hx : Loc X.env.scope x) (hf : X.fn x = true ∨ X.env.scope.names.lookup x = some .local) : PG X (.Name x pos) (TGm Γ (.s n)) := by
  refine pg_weak (pg_name hN hi hx hf) ?_
  rintro v σ H Q ⟨G, Hm, i, r, r', m, d, x, rv, h, k⟩
  unfold assignT at h
  split at h
  · cases h
  · cases h
    exact k _ (x.setV rv (getsome (by assumption))) Off.set
  · cases h
theorem gs_nil : PGs X [] (TGsm Γ []) := by
  refine pgs_weak pgs_nil ?_
  rintro v σ H Q ⟨G, Hm, i, r, r', m, ds, x, rv, h, k⟩
  cases ds with
  | nil => cases h; cases rv; exact ⟨rfl, k σ x (Off.refl _ _)⟩
  | cons _ _ => cases h
theorem assignEach_cons {e : Expr} {es : List Expr} {env : Env} (h : noStar e = true) : assignEach (e :: es) env = (false, assign e env) :: assignEach es env := by
  cases e <;> first | rfl | (simp [noStar] at h)
theorem gs_cons {e : Expr} {es : List Expr} {t : T} {ts : List T} (h1 : PG X e (TGm Γ t)) (h2 : PGs X es (TGsm Γ ts)) (hs : noStar e = true) : PGs X (e :: es) (TGsm Γ (t :: ts)) := by
  refine pgs_weak (pgs_cons h1 h2 (by rw [assignEach_cons hs]; rfl)) ?_
  rintro vs σ H Q ⟨G, Hm, i, r, r', m, ds, x, rv, h, k⟩
  cases ds with
  | nil => cases h
  | cons d ds =>
    have h : (assignT t d r).bind (assignTs ts ds) = some r' := h
    cases rv with
    | cons rv rvs =>
      cases e : assignT t d r with
      | none => rw [e] at h; cases h
      | some r1 =>
        rw [e] at h
        refine ⟨_, _, rfl, G, Hm, i, r, r1, m, d, x, rv, e, fun σ1 x1 o1 => ⟨G, Hm, i, r1, r', m, ds, x1, rvs, h, fun σ2 x2 o2 => k σ2 x2 ?_⟩⟩
        exact (o1.mono fun n hn => List.mem_append_left _ hn).trans (o2.mono fun n hn => List.mem_append_right _ hn)
theorem assignTs_len : ∀ (ts : List T) (ds : List D) (r r' : List Sl), assignTs ts ds r = some r' → ds.length = ts.length
  | [], [], _, _, _ => rfl
  | t :: ts, d :: ds, r, r', h => by
    have h : (assignT t d r).bind (assignTs ts ds) = some r' := h
    cases e : assignT t d r with
    | none => rw [e] at h; cases h
    | some r1 => rw [e] at h; simp [assignTs_len ts ds r1 r' h]
  | [], _ :: _, _, _, h => by cases h
  | _ :: _, [], _, _, h => by cases h
theorem g_tup {es : List Expr} {k : Nat} {ts : List T} (hc : X.calm = true) (hK : X.K = Γ.K) (h : PGs X es (TGsm Γ ts)) (hn : (assignEach es X.env).length = ts.length) (hst : (assignEach es X.env).findIdx? (·.1) = none) : PG X (.Tuple es k pos) (TGm Γ (.t ts)) := by
  refine pg_weak (pg_or (pg_tup hc h hn hst) (pg_unl hc h hn hst)) ?_
  rintro v σ H Q ⟨G, Hm, i, r, r', m, d, x, rv, h, k⟩
  cases d with
  | tup ds =>
    cases rv with
    | tup h1 h2 =>
      refine .inl ⟨_, _, rfl, by rw [hK]; exact SqT.le x.sub h1, ?_, G, Hm, i, r, r', m, ds, x, h2, h, k⟩
      rw [h2.length]; exact assignTs_len ts ds r r' h
  | lst ds =>
    cases rv with
    | lst h1 h2 =>
      refine .inr ⟨_, _, rfl, by rw [hK]; exact SqL.le x.sub h1, ?_, G, Hm, i, r, r', m, ds, x, h2, h, k⟩
      rw [h2.length]; exact assignTs_len ts ds r r' h
  | _ => cases h

/-! ### what is walked -/
/-- the iterator J gives the values ds, while the frozen part stands -/
def Walk (Γ : Glo) (Hm0 : Hp) (i0 : List Addr) (J : It) (ds : List D) : Prop := ∀ Hm H i, Le Hm0 Hm → i0 <+: i → Le Hm H → ∀ n, (ds.length ≤ n → n = ds.length → J.stop n H) ∧ ∀ d, ds[n]? = some d → J.go n H ∧ ∀ x H', J.yld n H x H' → ∃ Hm', Grow Hm H Hm' H' ∧ Rep Γ Hm' i x d
theorem Walk.go {Hm0 Hm1 : Hp} {i0 i1 : List Addr} {J : It} {ds : List D} (h : Walk Γ Hm0 i0 J ds) (g : Go Hm0 i0 Hm1 i1) : Walk Γ Hm1 i1 J ds := fun Hm H i a b => h Hm H i (g.hm.trans a) (g.pre.trans b)
def TIm (Γ : Glo) (KE : KEt) (ev : List Sl → List D → O (List D)) : TI := fun σ H Rr => ∃ G Hm i r m, R Γ G Hm i r m σ H ∧ After Γ G σ KE Hm i (ev r m) fun ds _ _ Hm' i' H' => ∀ J, Walk Γ Hm' i' J ds → Rr J H'
theorem walk_lst {Hm0 : Hp} {i0 : List Addr} {a : Addr} {xs : List V} {ds : List D} (h : SqL Γ.K Hm0 a xs) (r : Reps Γ Hm0 i0 xs ds) : Walk Γ Hm0 i0 (Itl Γ.K a) ds := fun Hm H i l p s n => by
  have h' := SqL.le (l.trans s) h
  refine ⟨fun _ e => ⟨xs, h', by rw [r.length]; omega⟩, fun d e => ?_⟩
  obtain ⟨x, hx, rx⟩ := r.get' e
  refine ⟨⟨xs, x, h', hx⟩, fun y H' ⟨e1, e2⟩ => ?_⟩
  have := e2 xs h'
  rw [hx] at this; cases this
  exact ⟨Hm, by rw [e1]; exact Grow.refl s, rx.le l p⟩
theorem walk_tup {Hm0 : Hp} {i0 : List Addr} {a : Addr} {xs : List V} {ds : List D} (h : SqT Γ.K Hm0 a xs) (r : Reps Γ Hm0 i0 xs ds) : Walk Γ Hm0 i0 (Itt Γ.K a) ds := fun Hm H i l p s n => by
  have h' := SqT.le (l.trans s) h
  refine ⟨fun _ e => ⟨xs, h', by rw [r.length]; omega⟩, fun d e => ?_⟩
  obtain ⟨x, hx, rx⟩ := r.get' e
  refine ⟨⟨xs, x, h', hx⟩, fun y H' ⟨e1, e2⟩ => ?_⟩
  have := e2 xs h'
  rw [hx] at this; cases this
  exact ⟨Hm, by rw [e1]; exact Grow.refl s, rx.le l p⟩
theorem walk_str {Hm0 : Hp} {i0 : List Addr} (z : Str) : Walk Γ Hm0 i0 (Its z) (charsOf z) := fun Hm H i l p s n => by
  refine ⟨fun _ e => ?_, fun d e => ?_⟩
  · show z.cps.size ≤ n
    rw [e]; simp [charsOf]
  · unfold charsOf at e
    rw [List.getElem?_map] at e
    cases q : z.cps.toList[n]? with
    | none => rw [q] at e; cases e
    | some c =>
      rw [q] at e; cases e
      have hc : z.cps[n]? = some c := by simpa using q
      refine ⟨(Array.getElem?_eq_some_iff.mp hc).1, fun y H' ⟨e1, c', e2, e3⟩ => ?_⟩
      rw [hc] at e2; cases e2
      exact ⟨Hm, by rw [e1]; exact Grow.refl s, by rw [e3]; exact .str _⟩
theorem walk_rng {Hm0 : Hp} {i0 : List Addr} (lo hi : Int) : Walk Γ Hm0 i0 (Itr lo (hi - lo).toNat) (rngD lo hi) := fun Hm H i l p s n => by
  have hlen : (rngD lo hi).length = (hi - lo).toNat := by simp [rngD]
  refine ⟨fun _ e => ?_, fun d e => ?_⟩
  · show (hi - lo).toNat ≤ n
    omega
  · have hn : n < (hi - lo).toNat := by rw [← hlen]; exact getsome e
    unfold rngD at e
    rw [List.getElem?_map, List.getElem?_range hn] at e
    cases e
    exact ⟨hn, fun y H' ⟨e1, e2⟩ => ⟨Hm, by rw [e1]; exact Grow.refl s, by rw [e2]; exact .int _⟩⟩
theorem enumD_get : ∀ (ds : List D) (k n : Nat) (d : D), (enumD k ds)[n]? = some d → ∃ e, ds[n]? = some e ∧ d = .tup [.int ((k + n : Nat) : Int), e]
  | [], k, n, d, h => by simp [enumD] at h
  | x :: xs, k, 0, d, h => by simp [enumD] at h; exact ⟨x, rfl, h.symm⟩
  | x :: xs, k, n + 1, d, h => by
    obtain ⟨e, h1, h2⟩ := enumD_get xs (k + 1) n d (by simpa [enumD] using h)
    exact ⟨e, by simpa using h1, by rw [h2, show k + 1 + n = k + (n + 1) by omega]⟩
theorem enumD_len : ∀ (ds : List D) (k : Nat), (enumD k ds).length = ds.length
  | [], _ => rfl
  | _ :: xs, k => by simp [enumD, enumD_len xs (k + 1)]
theorem walk_pair {Hm0 : Hp} {i0 : List Addr} {Ok : Hp → Prop} {f g : Nat → Option V} {ds : List D} (hok : ∀ H, Le Hm0 H → Ok H)
    (hg : ∀ n d, ds[n]? = some d → ∃ x y a b, f n = some x ∧ g n = some y ∧ Rep Γ Hm0 i0 x a ∧ Rep Γ Hm0 i0 y b ∧ d = .tup [a, b]) : Walk Γ Hm0 i0 (Ipair ds.length Ok f g) ds := fun Hm H i l p s n => by
  refine ⟨fun _ e => ⟨e, hok H (l.trans s)⟩, fun d e => ⟨⟨getsome e, hok H (l.trans s)⟩, fun z H' ⟨T, x, y, e1, e2, e3, e4, e5⟩ => ?_⟩⟩
  obtain ⟨x', y', a, b, f1, f2, r1, r2, e6⟩ := hg n d e
  rw [e4] at f1; cases f1
  rw [e5] at f2; cases f2
  subst e1 e3 e6
  have hm := le_none s e2
  refine ⟨upd Hm T (.tup [x, y]), Grow.froz s e2 _, .tup (SqT.of upd_same) (.cons ?_ (.cons ?_ .nil))⟩
  · exact (r1.le l p).go (Go.froz hm _)
  · exact (r2.le l p).go (Go.froz hm _)
theorem seqF_row {Hm H : Hp} {i : List Addr} {v : V} {d : D} {ds : List D} (rv : Rep Γ Hm i v d) (e : seqF d = some ds) : ∃ l a xs, v = .ref a ∧ RowL l Γ.K Hm a xs ∧ Reps Γ Hm i xs ds := by
  cases d <;> first | (cases e; done) | skip
  · cases e; cases rv with
    | tup h r => exact ⟨false, _, _, rfl, h, r⟩
  · cases e; cases rv with
    | lst h r => exact ⟨true, _, _, rfl, h, r⟩
theorem i_seq {tg e : Expr} {me : E} (hK : X.K = Γ.K) (h : PE X e (TM Γ KE (evE C ini me))) : PI X tg e (TIm Γ KE (evI C ini (.seq me))) := by
  refine pi_weak (pi_seqM h) ?_
  rintro σ H Rr ⟨G, Hm, i, r, m, x, h⟩
  rw [evI] at h
  refine ⟨G, Hm, i, r, m, x, h.bind.imp fun d r1 m1 Hm1 i1 H1 _ x1 k v rv => ?_⟩
  cases d <;> first | exact k.elim | skip
  · cases rv
    exact .inr (.inr ⟨_, rfl, k.here x1 _ (walk_str _)⟩)
  · cases rv with
    | tup h r => exact .inr (.inl ⟨_, _, rfl, by rw [hK]; exact SqT.le x1.sub h, by rw [hK]; exact k.here x1 _ (walk_tup h r)⟩)
  · cases rv with
    | lst h r => exact .inl ⟨_, _, rfl, by rw [hK]; exact SqL.le x1.sub h, by rw [hK]; exact k.here x1 _ (walk_lst h r)⟩
theorem evEs_one (e : E) (r : List Sl) (m : List D) : evEs C ini [e] r m = (evE C ini e r m).bind fun d r m => .ok [d] r m := by
  rw [evEs]
  simp only [evEs]
  rfl
theorem evEs_two (e e2 : E) (r : List Sl) (m : List D) : evEs C ini [e, e2] r m = (evE C ini e r m).bind fun d r m => (evE C ini e2 r m).bind fun d2 r m => .ok [d, d2] r m := by
  rw [evEs]
  cases evE C ini e r m with
  | ok d r1 m1 =>
    simp only [O.bind]
    rw [evEs_one]
    cases evE C ini e2 r1 m1 <;> rfl
  | ex _ _ _ => rfl
  | bad => rfl
theorem i_enum {e : Expr} {me : E} {p tpos : Pos} {elts : List Expr} {kk : Nat} (hK : X.K = Γ.K) (hg : Gl X "enumerate") (hm : X.mg "enumerate" = none) (h : PE X e (TM Γ KE (evE C ini me))) (hs : noStar e = true) :
    PI X (.Tuple elts kk tpos) (.Call (.Name "enumerate" p) [e] [] pos) (TIm Γ KE (evI C ini (.enum me))) := by
  refine pi_weak (pi_enumM hg hm (a_cons h a_nil hs) (star_cons hs)) ?_
  rintro σ H Rr ⟨G, Hm, i, r, m, x, h⟩
  refine ⟨G, Hm, i, r, m, x, ?_⟩
  rw [evI] at h
  rw [evEs_one]
  cases q : evE C ini me r m with
  | ok d r1 m1 =>
    rw [q] at h
    intro Hm' i' H' g x' vs rvs
    have h := After.later (α := List D) g h
    cases rvs with
    | cons rv rvs =>
      cases rvs
      cases e : seqF d with
      | none => simp only [O.bind, e, Option.map] at h; exact h.elim
      | some ds =>
        simp only [O.bind, e, Option.map] at h
        obtain ⟨l, a, xs, rfl, hr, rr⟩ := seqF_row (H := H') rv e
        refine ⟨l, a, xs, rfl, by rw [hK]; exact RowL.le x'.sub hr, ?_⟩
        have w := walk_pair (Γ := Γ) (Hm0 := Hm') (i0 := i') (ds := enumD 0 ds) (Ok := fun H => RowL l X.K H a xs) (f := fun i => some (.int (i : Nat))) (g := fun i => xs[i]?)
          (fun H l' => by rw [hK]; exact RowL.le l' hr) (fun n d e => by
            obtain ⟨u, h1, h2⟩ := enumD_get ds 0 n d e
            obtain ⟨y, h3, h4⟩ := rr.get' h1
            exact ⟨_, y, .int ((n : Nat) : Int), u, rfl, h3, .int _, h4, by rw [h2, Nat.zero_add]⟩)
        rw [enumD_len, ← rr.length] at w
        exact h.here x' _ w
  | ex _ _ _ => rw [q] at h; exact h
  | bad => rw [q] at h; exact h.elim
theorem zipD_get : ∀ (xs ys : List D) (n : Nat) (d : D), (zipD xs ys)[n]? = some d → ∃ a b, xs[n]? = some a ∧ ys[n]? = some b ∧ d = .tup [a, b]
  | [], ys, n, d, h => by simp [zipD] at h
  | x :: xs, [], n, d, h => by simp [zipD] at h
  | x :: xs, y :: ys, 0, d, h => by simp [zipD] at h; exact ⟨x, y, rfl, rfl, h.symm⟩
  | x :: xs, y :: ys, n + 1, d, h => by
    obtain ⟨a, b, h1, h2, h3⟩ := zipD_get xs ys n d (by simpa [zipD] using h)
    exact ⟨a, b, by simpa using h1, by simpa using h2, h3⟩
theorem i_zip {e e2 : Expr} {me me2 : E} {p tpos : Pos} {elts : List Expr} {kk : Nat} (hK : X.K = Γ.K) (hg : Gl X "zip") (hm : X.mg "zip" = none) (h : PE X e (TM Γ KE (evE C ini me))) (h2 : PE X e2 (TM Γ KE (evE C ini me2))) (hs : noStar e = true) (hs2 : noStar e2 = true) :
    PI X (.Tuple elts kk tpos) (.Call (.Name "zip" p) [e, e2] [] pos) (TIm Γ KE (evI C ini (.zip me me2))) := by
  refine pi_weak (pi_zipM hg hm (a_cons h (a_cons h2 a_nil hs2) hs) (star_cons hs) (by rw [star_cons hs2]; rfl)) ?_
  rintro σ H Rr ⟨G, Hm, i, r, m, x, h⟩
  refine ⟨G, Hm, i, r, m, x, ?_⟩
  rw [evI] at h
  rw [evEs_two]
  cases q : evE C ini me r m with
  | ok d r1 m1 =>
    rw [q] at h
    simp only [O.bind] at h ⊢
    cases q2 : evE C ini me2 r1 m1 with
    | ok d2 r2 m2 =>
      rw [q2] at h
      intro Hm' i' H' g x' vs rvs
      have h := After.later (α := List D) g h
      cases rvs with
      | cons rv rvs =>
        cases rvs with
        | cons rv2 rvs =>
          cases rvs
          cases e : seqF d with
          | none => simp only [O.bind, e, lift] at h; exact h.elim
          | some ds =>
            cases e2 : seqF d2 with
            | none => simp only [O.bind, e, e2, lift] at h; exact h.elim
            | some ds2 =>
              simp only [O.bind, e, e2, lift] at h
              obtain ⟨l, a, xs, rfl, hr, rr⟩ := seqF_row (H := H') rv e
              obtain ⟨l2, a2, xs2, rfl, hr2, rr2⟩ := seqF_row (H := H') rv2 e2
              refine ⟨l, l2, a, a2, xs, xs2, rfl, by rw [hK]; exact RowL.le x'.sub hr, by rw [hK]; exact RowL.le x'.sub hr2, ?_⟩
              have w := walk_pair (Γ := Γ) (Hm0 := Hm') (i0 := i') (ds := zipD ds ds2) (Ok := fun H => RowL l X.K H a xs ∧ RowL l2 X.K H a2 xs2) (f := fun i => xs[i]?) (g := fun i => xs2[i]?)
                (fun H l' => by rw [hK]; exact ⟨RowL.le l' hr, RowL.le l' hr2⟩) (fun n d e => by
                  obtain ⟨u, u2, h1, h2, h3⟩ := zipD_get ds ds2 n d e
                  obtain ⟨y, h4, h5⟩ := rr.get' h1
                  obtain ⟨y2, h6, h7⟩ := rr2.get' h2
                  exact ⟨y, y2, u, u2, h4, h6, h5, h7, h3⟩)
              rw [show (zipD ds ds2).length = min xs.length xs2.length by simp [zipD, rr.length, rr2.length]] at w
              exact h.here x' _ w
    | ex _ _ _ => rw [q2] at h; exact h
    | bad => rw [q2] at h; exact h.elim
  | ex _ _ _ => rw [q] at h; exact h
  | bad => rw [q] at h; exact h.elim
theorem i_rng {tg e : Expr} {me : E} {p : Pos} (hg : Gl X "range") (hm : X.mg "range" = none) (h : PE X e (TM Γ KE (evE C ini me))) (hs : noStar e = true) : PI X tg (.Call (.Name "range" p) [e] [] pos) (TIm Γ KE (evI C ini (.rng me))) := by
  refine pi_weak (pi_range1 hg hm (a_cons h a_nil hs) (star_cons hs)) ?_
  rintro σ H Rr ⟨G, Hm, i, r, m, x, h⟩
  refine ⟨G, Hm, i, r, m, x, ?_⟩
  rw [evI] at h
  rw [evEs_one]
  cases q : evE C ini me r m with
  | ok d r1 m1 =>
    rw [q] at h
    intro Hm' i' H' g x' vs rvs
    have h := After.later (α := List D) g h
    cases rvs with
    | cons rv rvs =>
      cases rvs
      cases d <;> first | exact h.elim | skip
      rename_i n _
      cases rv
      simp only [O.bind] at h
      by_cases hn : small62 n = true
      · rw [if_pos hn] at h
        have hn' := hn
        simp only [small62, Bool.and_eq_true, decide_eq_true_eq] at hn'
        refine ⟨n, rfl, hn'.1, hn'.2, ?_⟩
        have w := walk_rng (Γ := Γ) (Hm0 := Hm') (i0 := i') 0 n
        rw [Int.sub_zero] at w
        exact h.here x' _ w
      · rw [if_neg hn] at h; exact h.elim
  | ex _ _ _ => rw [q] at h; exact h
  | bad => rw [q] at h; exact h.elim
theorem i_rng2 {tg e e2 : Expr} {me me2 : E} {p : Pos} (hg : Gl X "range") (hm : X.mg "range" = none) (h : PE X e (TM Γ KE (evE C ini me))) (h2 : PE X e2 (TM Γ KE (evE C ini me2))) (hs : noStar e = true) (hs2 : noStar e2 = true) :
    PI X tg (.Call (.Name "range" p) [e, e2] [] pos) (TIm Γ KE (evI C ini (.rng2 me me2))) := by
  refine pi_weak (pi_range2 hg hm (a_cons h (a_cons h2 a_nil hs2) hs) (by rw [star_cons hs, star_cons hs2]; rfl) (by rw [star_cons hs2]; rfl)) ?_
  rintro σ H Rr ⟨G, Hm, i, r, m, x, h⟩
  refine ⟨G, Hm, i, r, m, x, ?_⟩
  rw [evI] at h
  rw [evEs_two]
  cases q : evE C ini me r m with
  | ok d r1 m1 =>
    rw [q] at h
    simp only [O.bind] at h ⊢
    cases q2 : evE C ini me2 r1 m1 with
    | ok d2 r2 m2 =>
      rw [q2] at h
      intro Hm' i' H' g x' vs rvs
      have h := After.later (α := List D) g h
      cases rvs with
      | cons rv rvs =>
        cases rvs with
        | cons rv2 rvs =>
          cases rvs
          cases d <;> first | exact h.elim | skip
          cases d2 <;> first | exact h.elim | skip
          rename_i n1 n2 _
          cases rv; cases rv2
          simp only [O.bind] at h
          by_cases hn : (small62 n1 && small62 n2) = true
          · rw [if_pos hn] at h
            have hn' := hn
            simp only [small62, Bool.and_eq_true, decide_eq_true_eq] at hn'
            refine ⟨n1, n2, rfl, ⟨hn'.1.1, hn'.1.2, hn'.2.1, hn'.2.2⟩, ?_⟩
            exact h.here x' _ (walk_rng n1 n2)
          · rw [if_neg hn] at h; exact h.elim
    | ex _ _ _ => rw [q2] at h; exact h
    | bad => rw [q2] at h; exact h.elim
  | ex _ _ _ => rw [q] at h; exact h
  | bad => rw [q] at h; exact h.elim

/-! ### the for statement -/
theorem s_for {tg iter : Expr} {b : List Stmt} {t : T} {mi : I} {mb : List S} (hp : PassesOwn (model X.prog X.w) X.A X.env X.xe) (hc : X.calm = true) (hi : PI X tg iter (TIm Γ KE (evI C ini mi))) (hg : PG X tg (TGm Γ t)) (hb : PSs X b (TSm Γ KE kd (evSs C ini W mb)))
    (hs : ∀ x, foldedSetIterable iter X.env x = pure x) : PS X (.For tg iter b [] pos) (TSm Γ KE kd (evS C ini W (.for t mi mb))) := by
  refine ps_weak (ps_for hp hc hi hg hb hs) ?_
  rintro D σ H ⟨G, Hm, i, r, m, x, h⟩
  rw [evS] at h
  refine ⟨G, Hm, i, r, m, x, (h.bind (σ := σ)).imp fun ds r1 m1 Hm1 i1 H1 _ x1 k1 J w => ?_⟩
  refine ⟨fun n mm σ H => mm = ds.length - n ∧ n ≤ ds.length ∧ ∃ G Hm i r m, R Γ G Hm i r m σ H ∧ Walk Γ Hm i J ds ∧ AfterS Γ G KE kd Hm i (loopF t (evSs C ini W mb) (ds.drop n) r m) D, ⟨ds.length, by simp, Nat.zero_le _, G, Hm1, i1, r1, m1, x1, w, by simpa using k1⟩, ?_⟩
  rintro n mm σ H ⟨rfl, hn, G, Hm, i, r, m, x, w, h⟩
  obtain ⟨ws, wg⟩ := w Hm H i (Le.refl _) (List.prefix_refl _) x.sub n
  by_cases hlt : n < ds.length
  · right
    have hd : ds[n]? = some ds[n] := by simp [hlt]
    obtain ⟨go, wy⟩ := wg _ hd
    rw [List.drop_eq_getElem_cons hlt, loopF] at h
    refine ⟨go, fun σ' H' => ∃ G Hm i r m, R Γ G Hm i r m σ' H' ∧ Walk Γ Hm i J ds ∧ AfterS Γ G KE kd Hm i (loopF t (evSs C ini W mb) (ds.drop (n + 1)) r m) D, fun σ' H' q => ⟨ds.length - (n + 1), by omega, rfl, hlt, q⟩, fun v H' y => ?_⟩
    obtain ⟨Hm', gr, rv⟩ := wy v H' y
    have x' := x.grown gr
    cases ea : assignT t ds[n] r with
    | none => rw [ea] at h; exact h.elim
    | some r' =>
      rw [ea] at h
      dsimp only at h
      refine ⟨G, Hm', i, r, r', m, ds[n], x', rv, ea, fun σ' x2 _ => ⟨G, Hm', i, r', m, x2, ?_⟩⟩
      have h := AfterS.later (gr.go (i := i)) h
      cases q : evSs C ini W mb r' m with
      | ok k r2 m2 =>
        rw [q] at h
        cases k with
        | nx => exact fun Hm2 i2 σ2 H2 g2 x2 => ⟨G, Hm2, i2, r2, m2, x2, w.go (gr.go.trans g2), AfterS.later g2 h⟩
        | rt d => exact h
      | ex _ _ _ => rw [q] at h; exact h
      | bad => rw [q] at h; exact h.elim
  · left
    have e : n = ds.length := by omega
    refine ⟨ws (by omega) e, ?_⟩
    rw [e, List.drop_length, loopF] at h
    exact h.nx x
end
end Mi
end
section
set_option maxRecDepth 100000
/-! Mi: list comprehensions. -/
namespace Mi
open PySem L2
/-- nothing may be raised -/
def KEF : KEt := fun _ _ _ _ _ _ => False
/-- .. and the object at D stands -/
def Act.prot (G : Act) (D : Addr) (o : HO) : Act := { G with H0 := upd G.H0 D o }
structure Free (G : Act) (D : Addr) : Prop where
  h0 : G.H0 D = none
  hm0 : G.Hm0 D = none
  i0 : D ∉ G.i0
section
variable {Γ : Glo} {G : Act} {Hm H Hm' H' : Hp} {i i' : List Addr} {r : List Sl} {m m' : List D} {σ : St} {D : Addr} {o o' : HO}
theorem R.enter (x : R Γ G Hm i r m σ H) (h : H D = none) (o : HO) : Free G D ∧ R Γ (G.prot D o) Hm i r m σ (upd H D o) := by
  obtain ⟨f1, f2, f3⟩ := x.free h
  have ne : ∀ {a : Addr} {u : HO}, H a = some u → a ≠ D := fun e z => by subst z; rw [h] at e; cases e
  refine ⟨⟨f3, le_none x.old f1, fun z => f2 (x.pre.subset z)⟩, x.sub.trans (le_upd h), x.len, x.val, fun n d e => ?_, x.apart, fun n d e => ?_, x.locl, x.locd, fun a u e hi => ?_, fun a u e => ?_, x.old, x.pre, fun a ha => ?_⟩
  · obtain ⟨a, u, h1, h2, h3, h4, h5, h6⟩ := x.own n d e
    exact ⟨a, u, h1, by rw [upd_ne (ne h2)]; exact h2, h3, h4, by show upd G.H0 D o a = none; rw [upd_ne (ne h2)]; exact h5, h6⟩
  · obtain ⟨a, u, h1, h2, h3, h4⟩ := x.loc n d e
    exact ⟨a, u, h1, by rw [upd_ne (ne h2)]; exact h2, h3, h4⟩
  · have e : upd G.H0 D o a = some u := e
    by_cases ha : a = D
    · subst ha; rw [upd_same] at e ⊢; exact e
    · rw [upd_ne ha] at e ⊢; exact x.keep a u e hi
  · have ha : a ≠ D := fun z => by subst z; rw [f1] at e; cases e
    show _ ∨ upd G.H0 D o a = none
    rw [upd_ne ha]; exact x.new a u e
  · have hd : a ≠ D := fun z => f2 (z ▸ ha)
    show _ ∨ upd G.H0 D o a = none
    rw [upd_ne hd]; exact x.locn a ha
theorem R.prot_no (x : R Γ (G.prot D o) Hm i r m σ H) (f : Free G D) : Hm D = none ∧ D ∉ i ∧ H D = some o := by
  refine ⟨?_, fun z => ?_, x.keep D o upd_same f.i0⟩
  · cases e : Hm D with
    | none => rfl
    | some u =>
      rcases x.new D u e with z | z
      · have z : G.Hm0 D = some u := z
        rw [f.hm0] at z; cases z
      · have z : upd G.H0 D o D = none := z
        rw [upd_same] at z; cases z
  · rcases x.locn D z with z | z
    · exact f.i0 z
    · have z : upd G.H0 D o D = none := z
      rw [upd_same] at z; cases z
theorem prot_ne {a : Addr} (h : (G.prot D o).H0 a = none) : a ≠ D := fun z => by
  subst z
  have h : upd G.H0 a o a = none := h
  rw [upd_same] at h; cases h
theorem R.step (x : R Γ (G.prot D o) Hm i r m σ H) (f : Free G D) (o' : HO) : R Γ (G.prot D o') Hm i r m σ (upd H D o') := by
  obtain ⟨f1, f2, f3⟩ := x.prot_no f
  refine ⟨fun b v e => ?_, x.len, x.val, fun n d e => ?_, x.apart, fun n d e => ?_, x.locl, x.locd, fun a u e hi => ?_, fun a u e => ?_, x.old, x.pre, fun a ha => ?_⟩
  · have : b ≠ D := fun z => by subst z; rw [f1] at e; cases e
    rw [upd_ne this]; exact x.sub b v e
  · obtain ⟨a, u, h1, h2, h3, h4, h5, h6⟩ := x.own n d e
    have ha := prot_ne h5
    have h5 : upd G.H0 D o a = none := h5
    rw [upd_ne ha] at h5
    exact ⟨a, u, h1, by rw [upd_ne ha]; exact h2, h3, h4, by show upd G.H0 D o' a = none; rw [upd_ne ha]; exact h5, h6⟩
  · obtain ⟨a, u, h1, h2, h3, h4⟩ := x.loc n d e
    have ha : a ≠ D := fun z => f2 (z ▸ List.mem_of_getElem? h1)
    exact ⟨a, u, h1, by rw [upd_ne ha]; exact h2, h3, h4⟩
  · have e : upd G.H0 D o' a = some u := e
    by_cases ha : a = D
    · subst ha; rw [upd_same] at e ⊢; exact e
    · rw [upd_ne ha] at e ⊢
      exact x.keep a u (by show upd G.H0 D o a = some u; rw [upd_ne ha]; exact e) hi
  · have ha : a ≠ D := fun z => by subst z; rw [f1] at e; cases e
    have q := x.new a u e
    have q : G.Hm0 a = some u ∨ upd G.H0 D o a = none := q
    rw [upd_ne ha] at q
    show _ ∨ upd G.H0 D o' a = none
    rw [upd_ne ha]; exact q
  · have hd : a ≠ D := fun z => f2 (z ▸ ha)
    have q : a ∈ G.i0 ∨ upd G.H0 D o a = none := x.locn a ha
    rw [upd_ne hd] at q
    show _ ∨ upd G.H0 D o' a = none
    rw [upd_ne hd]; exact q
theorem R.leave (x : R Γ (G.prot D o) Hm i r m σ H) (f : Free G D) : R Γ G Hm i r m σ H ∧ ∀ (n : Nat) (e : Mi.D), r[n]? = some (.o e) → σ[n]? ≠ some (some (.ref D)) := by
  obtain ⟨f1, f2, f3⟩ := x.prot_no f
  refine ⟨⟨x.sub, x.len, x.val, fun n d e => ?_, x.apart, x.loc, x.locl, x.locd, fun a u e hi => ?_, fun a u e => ?_, x.old, x.pre, fun a ha => ?_⟩, fun n e h z => ?_⟩
  · obtain ⟨a, u, h1, h2, h3, h4, h5, h6⟩ := x.own n d e
    have ha := prot_ne h5
    have h5 : upd G.H0 D o a = none := h5
    rw [upd_ne ha] at h5
    exact ⟨a, u, h1, h2, h3, h4, h5, h6⟩
  · have ha : a ≠ D := fun z => by subst z; rw [f.h0] at e; cases e
    exact x.keep a u (by show upd G.H0 D o a = some u; rw [upd_ne ha]; exact e) hi
  · have ha : a ≠ D := fun z => by subst z; rw [f1] at e; cases e
    have q : G.Hm0 a = some u ∨ upd G.H0 D o a = none := x.new a u e
    rw [upd_ne ha] at q; exact q
  · have hd : a ≠ D := fun z => f2 (z ▸ ha)
    have q : a ∈ G.i0 ∨ upd G.H0 D o a = none := x.locn a ha
    rw [upd_ne hd] at q; exact q
  · obtain ⟨a, u, h1, h2, h3, h4, h5, h6⟩ := x.own n e h
    rw [z] at h1; cases h1
    exact prot_ne h5 rfl
end

section
variable {X : Cx} {Γ : Glo} {KE : KEt} {kd : Kd} {C : Nat → List D → List D → CO} {ini : Str → Option Nat} {W : Nat} {pos : Pos}
def lcF (C : Nat → List D → List D → CO) (ini : Str → Option Nat) (e : E) (cs : List E) : List Sl → List D → O (Option D) :=
  fun r m => (evAnd C ini cs r m).bind fun b r m => if b then (evE C ini e r m).bind fun d r m => .ok (some d) r m else .ok none r m
theorem turns_cons {r0 : List Sl} {t : T} {f : List Sl → List D → O (Option D)} {d : D} {ds : List D} {m : List D} {ys : List D} {r' : List Sl} {m2 : List D} (h : turns r0 t f (d :: ds) m = .ok ys r' m2) :
    ∃ r1 y m1 ys2 r2, assignT t d r0 = some r1 ∧ f r1 m = .ok y r1 m1 ∧ turns r0 t f ds m1 = .ok ys2 r2 m2 ∧ ys = (match y with | some y => y :: ys2 | none => ys2) := by
  rw [turns] at h
  cases e1 : assignT t d r0 with
  | none => rw [e1] at h; cases h
  | some r1 =>
    rw [e1] at h
    dsimp only at h
    cases e2 : f r1 m with
    | ok y r' m' =>
      rw [e2] at h
      dsimp only at h
      by_cases hr : r' = r1
      · rw [if_pos hr] at h
        subst hr
        cases e3 : turns r0 t f ds m' with
        | ok ys2 r2 m3 =>
          rw [e3] at h
          simp only [O.bind] at h
          injection h with h1 h2 h3
          subst h1 h3
          exact ⟨r', y, m', ys2, r2, rfl, e2, e3, rfl⟩
        | ex _ _ _ => rw [e3] at h; cases h
        | bad => rw [e3] at h; cases h
      · rw [if_neg hr] at h; cases h
    | ex _ _ _ => rw [e2] at h; cases h
    | bad => rw [e2] at h; cases h
theorem bind_ok {α β : Type} {o : O α} {f : α → List Sl → List D → O β} {b : β} {r : List Sl} {m : List D} (h : o.bind f = .ok b r m) : ∃ a r1 m1, o = .ok a r1 m1 ∧ f a r1 m1 = .ok b r m := by
  cases o with
  | ok a r1 m1 => exact ⟨a, r1, m1, rfl, h⟩
  | ex _ _ _ => cases h
  | bad => cases h
theorem lc_body {G : Act} {Hm : Hp} {i : List Addr} {r : List Sl} {m : List D} {σ : St} {H : Hp} {ow : List Nat} {t : T} {e : E} {cs : List E} {ds ys : List D} {r' : List Sl} {m2 : List D} {J : It} {Q : VK} (x : R Γ G Hm i r m σ H)
    (hev : turns (wipe r ow) t (lcF C ini e cs) ds m = .ok ys r' m2) (hb : ds.length ≤ 1000000) (no : noOwn r ow = true) (ht : ∀ n ∈ t.sl, n ∈ ow) (w : Walk Γ Hm i J ds)
    (fin : ∀ Hm' i' H' D o, Go Hm i Hm' i' → R Γ G Hm' i' r m2 σ H' → NewAt Γ G Hm' i' r σ H' D o (.lst ys) → Q (.ref D) H') :
    ∀ D, H D = none → ∃ W : Nat → Nat → Hp → Prop, (∃ mm, W 0 mm (upd H D (.lst []))) ∧ ∀ n mm H, W n mm H →
      (J.stop n H ∧ Q (.ref D) H) ∨ (J.go n H ∧ ∃ Nx : Hp → Prop, (∀ H', Nx H' → ∃ m', m' < mm ∧ W (n + 1) m' H') ∧ ∀ x H', J.yld n H x H' → TGm Γ t x (L2.wipe σ ow) H' fun σ2 H2 => L2.wipe σ2 ow = L2.wipe σ ow ∧ TB Γ KEF (evAnd C ini cs) σ2 H2 fun b H3 =>
        if b = true then TM Γ KEF (evE C ini e) σ2 H3 fun y H4 => ∃ acc, H4 D = some (.lst acc) ∧ acc.length < sizeLine ∧ Nx (upd H4 D (.lst (acc ++ [y]))) else Nx H3) := by
  intro D hD
  obtain ⟨fr, x0⟩ := x.enter hD (.lst [])
  refine ⟨fun n mm H => mm = ds.length - n ∧ n ≤ ds.length ∧ ∃ Hm' i' m' acc ads ys' rr, R Γ (G.prot D (.lst acc)) Hm' i' (wipe r ow) m' (L2.wipe σ ow) H ∧ Go Hm i Hm' i' ∧ Reps Γ Hm' i' acc ads ∧ acc.length ≤ n ∧
    turns (wipe r ow) t (lcF C ini e cs) (ds.drop n) m' = .ok ys' rr m2 ∧ ads ++ ys' = ys, ⟨ds.length, by simp, Nat.zero_le _, Hm, i, m, [], [], ys, r', x0.wipe ow, Go.refl _ _, .nil, Nat.le_refl _, by simpa using hev, rfl⟩, ?_⟩
  rintro n mm H1 ⟨rfl, hn, Hm1, i1, m1, acc, ads, ys1, rr, x1, g1, ra, ha, h1, hy⟩
  obtain ⟨ws, wg⟩ := w Hm1 H1 i1 g1.hm g1.pre x1.sub n
  by_cases hlt : n < ds.length
  · right
    obtain ⟨go, wy⟩ := wg _ (show ds[n]? = some ds[n] by simp [hlt])
    rw [List.drop_eq_getElem_cons hlt] at h1
    obtain ⟨r1, y, m3, ys2, r2, ea, ef, et, ey⟩ := turns_cons h1
    have nx : ∀ {Hm5 : Hp} {i5 : List Addr} {acc' : List V} {ads' : List Mi.D} {σ2 : St} {H5 : Hp}, R Γ (G.prot D (.lst acc')) Hm5 i5 r1 m3 σ2 H5 → Go Hm i Hm5 i5 → Reps Γ Hm5 i5 acc' ads' → acc'.length ≤ n + 1 → ads' ++ ys2 = ys → Off t.sl (L2.wipe σ ow) σ2 →
        ∃ Hm' i' m' acc ads ys' rr, R Γ (G.prot D (.lst acc)) Hm' i' (wipe r ow) m' (L2.wipe σ ow) H5 ∧ Go Hm i Hm' i' ∧ Reps Γ Hm' i' acc ads ∧ acc.length ≤ n + 1 ∧ turns (wipe r ow) t (lcF C ini e cs) (ds.drop (n + 1)) m' = .ok ys' rr m2 ∧ ads ++ ys' = ys := fun {Hm5 i5 acc' ads' σ2 H5} x5 g5 r5 l5 e5 off => by
      have z := x5.wipe ow
      rw [wipe_off ((assign_off t _ _ _ ea).mono ht), wipe_idem, lwipe_off (off.mono ht), lwipe_idem] at z
      exact ⟨Hm5, i5, m3, acc', ads', ys2, r2, z, g5, r5, l5, et, e5⟩
    refine ⟨go, fun H' => ∃ Hm' i' m' acc ads ys' rr, R Γ (G.prot D (.lst acc)) Hm' i' (wipe r ow) m' (L2.wipe σ ow) H' ∧ Go Hm i Hm' i' ∧ Reps Γ Hm' i' acc ads ∧ acc.length ≤ n + 1 ∧ turns (wipe r ow) t (lcF C ini e cs) (ds.drop (n + 1)) m' = .ok ys' rr m2 ∧ ads ++ ys' = ys,
      fun H' q => ⟨ds.length - (n + 1), by omega, rfl, hlt, q⟩, fun v H' yl => ?_⟩
    obtain ⟨Hm2, gr, rv⟩ := wy v H' yl
    have x2 := x1.grown gr
    refine ⟨_, Hm2, i1, wipe r ow, r1, m1, ds[n], x2, rv, ea, fun σ2 x3 off => ⟨by rw [lwipe_off (off.mono ht), lwipe_idem], _, Hm2, i1, r1, m1, x3, ?_⟩⟩
    obtain ⟨b, r3, m4, e1, e2⟩ := bind_ok ef
    rw [e1]
    intro Hm3 i3 H3 g3 x4
    have g13 := (g1.trans gr.go).trans g3
    cases b with
    | false =>
      rw [if_neg Bool.false_ne_true] at e2
      injection e2 with q1 q2 q3
      subst q1 q2 q3
      dsimp only
      rw [if_neg Bool.false_ne_true]
      exact nx x4 g13 (ra.go (gr.go.trans g3)) (by omega) (by rw [← hy, ey]) off
    | true =>
      rw [if_pos rfl] at e2
      dsimp only
      rw [if_pos rfl]
      obtain ⟨d, r4, m5, e3, e4⟩ := bind_ok e2
      injection e4 with q1 q2 q3
      subst q1 q2 q3
      refine ⟨_, Hm3, i3, r3, m4, x4, ?_⟩
      rw [e3]
      intro Hm4 i4 H4 g4 x5 v2 rv2
      obtain ⟨_, _, f3⟩ := x5.prot_no fr
      refine ⟨acc, f3, ?_, nx (x5.step fr (.lst (acc ++ [v2]))) (g13.trans g4) ((ra.go ((gr.go.trans g3).trans g4)).app (.cons rv2 .nil)) (by simp; omega) (by rw [← hy, ey]; simp) off⟩
      have : (1000000 : Nat) ≤ sizeLine := le_line (Nat.le_refl _)
      omega
  · left
    have e : n = ds.length := by omega
    refine ⟨ws (by omega) e, ?_⟩
    rw [e, List.drop_length, turns] at h1
    injection h1 with q1 q2 q3
    subst q1 q3
    obtain ⟨f1, f2, f3⟩ := x1.prot_no fr
    obtain ⟨x2, ap⟩ := x1.leave fr
    have x3 := x.back x2 g1 no
    refine fin Hm1 i1 H1 D _ g1 x3 ⟨f3, f1, f2, fr.h0, by rw [← hy, List.append_nil]; exact .lst ra, fun k u hk hs => ?_⟩
    have hk' : k ∉ ow := fun z => by
      have q := List.all_eq_true.mp no k z
      rw [hk] at q; cases q
    exact ap k u (by rw [wipe_out r hk']; exact hk) (by rw [L2.wipe_out hk']; exact hs)
theorem turns_ex {r0 : List Sl} {t : T} {f : List Sl → List D → O (Option D)} : ∀ (ds : List D) (mm : List D) (z : D) (rr : List Sl) (m3 : List D), turns r0 t f ds mm ≠ .ex z rr m3 := by
  intro ds
  induction ds with
  | nil => intro mm z rr m3 h; rw [turns] at h; cases h
  | cons d ds ih =>
    intro mm z rr m3 h
    rw [turns] at h
    split at h
    · cases h
    · split at h
      · split at h
        · rename_i m' _ _
          cases e3 : turns r0 t f ds m' with
          | ok _ _ _ => rw [e3] at h; cases h
          | ex _ _ _ => exact ih _ _ _ _ e3
          | bad => rw [e3] at h; cases h
        · cases h
      · cases h
theorem lc_ev (ow : List Nat) (e : E) (t : T) (mi : I) (cs : List E) (r : List Sl) (m : List D) : evE C ini (.lc ow e t mi cs) r m = (evI C ini mi r m).bind fun xs r m => if (noOwn r ow && big xs) = true then (turns (wipe r ow) t (lcF C ini e cs) xs m).bind fun ys _ m => .ok (.lst ys) r m else .bad := by
  rw [evE]; rfl
theorem tm_lc {ow : List Nat} {t : T} {e : E} {cs : List E} {mi : I} (ht : ∀ n ∈ t.sl, n ∈ ow) : ∀ σ H Q, TM Γ KE (evE C ini (.lc ow e t mi cs)) σ H Q → tLc (TIm Γ KE (evI C ini mi)) (TGm Γ t) (TB Γ KEF (evAnd C ini cs)) (TM Γ KEF (evE C ini e)) ow σ H Q := by
  rintro σ H Q ⟨G, Hm, i, r, m, x, h⟩
  rw [lc_ev] at h
  refine ⟨G, Hm, i, r, m, x, h.bind.imp fun ds r1 m1 Hm1 i1 H1 _ x1 k J w => ?_⟩
  by_cases hc : (noOwn r1 ow && big ds) = true
  · rw [if_pos hc] at k
    simp only [Bool.and_eq_true, big, decide_eq_true_eq] at hc
    cases q : turns (wipe r1 ow) t (lcF C ini e cs) ds m1 with
    | ok ys r' m2 =>
      rw [q] at k
      refine lc_body x1 q hc.2 hc.1 ht w fun Hm' i' H' D o g x' n => ?_
      obtain ⟨y1, y2, y3⟩ := n.frz x'
      exact k _ i' H' (g.trans y3) y1 (.ref D) y2
    | ex _ _ _ => exact (turns_ex _ _ _ _ _ q).elim
    | bad => rw [q] at k; exact k.elim
  · rw [if_neg hc] at k; exact k.elim
theorem tn_lc {ow : List Nat} {t : T} {e : E} {cs : List E} {mi : I} (ht : ∀ n ∈ t.sl, n ∈ ow) : ∀ σ H Q, TN Γ KE (evE C ini (.lc ow e t mi cs)) σ H Q → tLc (TIm Γ KE (evI C ini mi)) (TGm Γ t) (TB Γ KEF (evAnd C ini cs)) (TM Γ KEF (evE C ini e)) ow σ H Q := by
  rintro σ H Q ⟨G, Hm, i, r, m, x, h⟩
  rw [lc_ev] at h
  refine ⟨G, Hm, i, r, m, x, (cont_bind h).bind.imp fun ds r1 m1 Hm1 i1 H1 _ x1 k J w => ?_⟩
  by_cases hc : (noOwn r1 ow && big ds) = true
  · rw [if_pos hc] at k
    simp only [Bool.and_eq_true, big, decide_eq_true_eq] at hc
    cases q : turns (wipe r1 ow) t (lcF C ini e cs) ds m1 with
    | ok ys r' m2 =>
      rw [q] at k
      refine lc_body x1 q hc.2 hc.1 ht w fun Hm' i' H' D o g x' n => ?_
      obtain ⟨_, k⟩ := cont_ok k
      exact k Hm' i' H' g x' D o n
    | ex _ _ _ => exact (turns_ex _ _ _ _ _ q).elim
    | bad => rw [q] at k; exact k.elim
  · rw [if_neg hc] at k; exact k.elim
theorem ts_nil : PTs X [] (TB Γ KE (evAnd C ini [])) := by
  refine ⟨fun pins s σ H Q I h => pts_nil.run pins s σ H Q I ?_⟩
  obtain ⟨G, Hm, i, r, m, x, h⟩ := h
  rw [evAnd] at h
  exact h.here x
theorem ts_one {c : Expr} {mc : E} (h : PT X c (TB Γ KE (evT (evE C ini mc)))) : PTs X [c] (TB Γ KE (evAnd C ini [mc])) := by
  refine ⟨fun pins s σ H Q I q => (pts_one h).run pins s σ H Q I ?_⟩
  obtain ⟨G, Hm, i, r, m, x, q⟩ := q
  rw [ev_and1] at q
  refine ⟨G, Hm, i, r, m, x, q.bind.imp fun b r1 m1 Hm1 i1 H1 _ x1 k1 => ?_⟩
  cases b with
  | true => rw [if_pos rfl, evAnd] at k1; exact k1.here x1
  | false => rw [if_neg Bool.false_ne_true] at k1; exact k1.here x1
/-- the parts of a comprehension -/
structure LcOk (X : Cx) (Γ : Glo) (KE : KEt) (C : Nat → List D → List D → CO) (ini : Str → Option Nat) (elt tg iter : Expr) (ifs : List Expr) (scope : Scope) (own : List (Str × Nat)) (e : E) (t : T) (mi : I) (cs : List E) : Prop where
  hc : X.calm = true
  hN : X.N.Nodup
  hi : PI X tg iter (TIm Γ KE (evI C ini mi))
  ok : BlkOk X.N X.env.scope scope own
  hg : ∀ (s : Shared) (H : Hp) (B : Addr) (cl : List (Str × Addr)) (fp : List Addr), PG (X.blk s H scope (compEnvC scope cl B X.env) fp) tg (TGm Γ t)
  ht : ∀ (s : Shared) (H : Hp) (B : Addr) (cl : List (Str × Addr)) (fp : List Addr), PTs (X.blk s H scope (compEnvC scope cl B X.env) fp) ifs (TB Γ KEF (evAnd C ini cs))
  he : ∀ (s : Shared) (H : Hp) (B : Addr) (cl : List (Str × Addr)) (fp : List Addr), PE (X.blk s H scope (compEnvC scope cl B X.env) fp) elt (TM Γ KEF (evE C ini e))
  hs : ∀ x, foldedSetIterable iter X.env x = pure x
  sl : ∀ n ∈ t.sl, n ∈ own.map (·.2)
variable {elt tg iter : Expr} {ifs : List Expr} {scope : Scope} {own : List (Str × Nat)} {e : E} {t : T} {mi : I} {cs : List E}
theorem e_lc (z : LcOk X Γ KE C ini elt tg iter ifs scope own e t mi cs) : PE X (.ListComp elt [⟨tg, iter, ifs, 0⟩] scope pos) (TM Γ KE (evE C ini (.lc (own.map (·.2)) e t mi cs))) :=
  pe_weak (pe_lc z.hc z.hN z.hi z.ok z.hg z.ht z.he z.hs) (tm_lc z.sl)
theorem n_lc (z : LcOk X Γ KE C ini elt tg iter ifs scope own e t mi cs) : PE X (.ListComp elt [⟨tg, iter, ifs, 0⟩] scope pos) (TN Γ KE (evE C ini (.lc (own.map (·.2)) e t mi cs))) :=
  pe_weak (pe_lc z.hc z.hN z.hi z.ok z.hg z.ht z.he z.hs) (tn_lc z.sl)
theorem s_setLc {n : Nat} {y : Str} {py spos : Pos} (z : LcOk X Γ KE C ini elt tg iter ifs scope own e t mi cs) (hy : X.N[n]? = some y) (hyl : X.env.scope.names.lookup y = some .local) (hsw : swapsWith (.ListComp elt [⟨tg, iter, ifs, 0⟩] scope pos) (some (.Name y py)) spos.line X.env = pure true) :
    PS X (.Assign [.Name y py] (.ListComp elt [⟨tg, iter, ifs, 0⟩] scope pos) spos) (TSm Γ KE kd (evS C ini W (.set n (.lc (own.map (·.2)) e t mi cs)))) :=
  ps_weak (ps_setLc z.hc z.hN hy hyl hsw z.hi z.ok z.hg z.ht z.he z.hs) (x_set (e := elt) (tm_lc z.sl))
theorem s_setOLc {n : Nat} {y : Str} {py spos : Pos} (z : LcOk X Γ KE C ini elt tg iter ifs scope own e t mi cs) (hy : X.N[n]? = some y) (hyl : X.env.scope.names.lookup y = some .local) (hsw : swapsWith (.ListComp elt [⟨tg, iter, ifs, 0⟩] scope pos) (some (.Name y py)) spos.line X.env = pure true) :
    PS X (.Assign [.Name y py] (.ListComp elt [⟨tg, iter, ifs, 0⟩] scope pos) spos) (TSm Γ KE kd (evS C ini W (.setO n (.lc (own.map (·.2)) e t mi cs)))) :=
  ps_weak (ps_setLc z.hc z.hN hy hyl hsw z.hi z.ok z.hg z.ht z.he z.hs) (x_setO (tn_lc z.sl))
end
end Mi
end
section
set_option maxRecDepth 100000
/-! Mi: operators, comparisons, subscripts, builtins. -/
namespace Mi
open PySem L2
section
variable {Γ : Glo} {G : Act} {Hm H : Hp} {i : List Addr} {r : List Sl} {m : List D} {σ : St} {Q : VK}
theorem fk_lst (x : R Γ G Hm i r m σ H) {xs : List V} {ds : List D} (q : Reps Γ Hm i xs ds) (h : FK Γ Hm i H (.lst ds) Q) : ∀ p, H p = none → Q (.ref p) (upd H p (.lst xs)) := fn_lst x q h.n
theorem two_eq {α : Type} {a b c d : α} (h : [a, b] = [c, d]) : a = c ∧ b = d := by injection h with h1 h2; injection h2 with h2 _; exact ⟨h1, h2⟩
/-- + -/
theorem rd_add : Rd2 Γ .add (rAddM Γ.K) := by
  intro G Hm i rr m σ H x y a b d Q R1 ha hb e k
  change b_add m [a, b] = some d at e
  rcases add_seq e with ⟨n, j, rfl, rfl, rfl⟩ | ⟨n, j, rfl, rfl, hl, rfl⟩ | ⟨xs, ys, rfl, rfl, hl, rfl⟩ | ⟨xs, ys, n1, n2, e1, e2, hl, rfl⟩
  · exact .inl (.inl ⟨n, j, ha.int, hb.int, k.at R1 (.int _)⟩)
  · exact .inl (.inr ⟨n, j, ha.str, hb.str, le_line (by omega), k.at R1 (.str _)⟩)
  · obtain ⟨a1, v1, f1, f2, f2', f3⟩ := ha.tup R1.sub
    obtain ⟨a2, v2, g1, g2, g2', g3⟩ := hb.tup R1.sub
    refine .inr (.inr ?_)
    refine ⟨a1, a2, v1, v2, f1, g1, f2, g2, ?_, fun hx => ?_, fun _ hx => ?_, fun h1 h2 p hp => ?_⟩
    · rw [f3.length, g3.length]; exact le_line (by omega)
    · subst hx
      cases f3
      exact k.at R1 (g1 ▸ .tup g2' g3)
    · subst hx
      cases g3
      rw [List.append_nil] at k
      exact k.at R1 (f1 ▸ .tup f2' f3)
    · exact fk_tup R1 (f3.app g3) k p hp
  · obtain ⟨a1, v1, f1, f3, f2⟩ := ha.seq R1 e1
    obtain ⟨a2, v2, g1, g3, g2⟩ := hb.seq R1 e2
    refine .inr (.inl ?_)
    have h1 : SqL Γ.K H a1 v1 := by
      rcases f2 with ⟨_, z⟩ | ⟨z, _⟩
      · exact absurd z (n1 _)
      · exact z
    have h2 : SqL Γ.K H a2 v2 := by
      rcases g2 with ⟨_, z⟩ | ⟨z, _⟩
      · exact absurd z (n2 _)
      · exact z
    exact ⟨a1, a2, v1, v2, f1, g1, h1, h2, by rw [f3.length, g3.length]; exact le_line hl, fk_lst R1 (f3.app g3) k⟩

/-! comparisons -/
theorem deref2 {m : List D} {f : D → D → Option D} {a b d : D} (h : (do let x ← deref m a; let y ← deref m b; f x y) = some d) : ∃ x y, deref m a = some x ∧ deref m b = some y ∧ f x y = some d := by
  cases e1 : deref m a with
  | none => rw [e1] at h; cases h
  | some x =>
    cases e2 : deref m b with
    | none => rw [e1, e2] at h; cases h
    | some y => rw [e1, e2] at h; exact ⟨x, y, rfl, rfl, h⟩
theorem eqD_of {a b : D} {c : Bool} (h : eqD a b = some c) : isPy a = true ∧ isPy b = true ∧ SeqAt.shaped (py a) = true ∧ SeqAt.shaped (py b) = true ∧ PyData.eqv (py a) (py b) = c := by
  unfold eqD at h
  split at h
  · rename_i q
    simp only [Bool.and_eq_true] at q
    cases h
    exact ⟨q.1.1.1, q.1.1.2, q.1.2, q.2, rfl⟩
  · cases h
theorem rd_eq : Rd2 Γ .eq (rEqD Γ.K) := by
  intro G Hm i rr m σ H x y a b d Q R1 ha hb e k
  obtain ⟨a', b', e1, e2, e3⟩ := deref2 (f := fun x y => (eqD x y).map .bl) e
  cases e4 : eqD a' b' with
  | none => rw [e4] at e3; cases e3
  | some c =>
    rw [e4] at e3; cases e3
    obtain ⟨p1, p2, p3, p4, p5⟩ := eqD_of e4
    exact ⟨_, _, (ha.deref R1 e1).dp R1.sub p1, (hb.deref R1 e2).dp R1.sub p2, p3, p4, by rw [p5]; exact k.at R1 (.bl _)⟩
theorem rd_ne : Rd2 Γ .ne (rNeD Γ.K) := by
  intro G Hm i rr m σ H x y a b d Q R1 ha hb e k
  obtain ⟨a', b', e1, e2, e3⟩ := deref2 (f := fun x y => (eqD x y).map fun b => .bl (!b)) e
  cases e4 : eqD a' b' with
  | none => rw [e4] at e3; cases e3
  | some c =>
    rw [e4] at e3; cases e3
    obtain ⟨p1, p2, p3, p4, p5⟩ := eqD_of e4
    exact ⟨_, _, (ha.deref R1 e1).dp R1.sub p1, (hb.deref R1 e2).dp R1.sub p2, p3, p4, by rw [p5]; exact k.at R1 (.bl _)⟩
/-- order: ints, or data alike -/
def rLtM (K : PySem.W.Frag) : R2 := fun x y H Q => rI0 (fun i j => .bl (decide (i < j))) x y H Q ∨ rOrd K (fun d e => W.dataLt d e) x y H Q
def rGtM (K : PySem.W.Frag) : R2 := fun x y H Q => rI0 (fun i j => .bl (decide (j < i))) x y H Q ∨ rOrd K (fun d e => W.dataLt e d) x y H Q
theorem ltD_of {a b : D} {c : Bool} (h : ltD a b = some c) : (∃ i j, a = .int i ∧ b = .int j ∧ c = decide (i < j)) ∨ (isPy a = true ∧ isPy b = true ∧ W.alike (py a) (py b) = true ∧ SeqAt.shaped (py a) = true ∧ SeqAt.shaped (py b) = true ∧ py a ≠ .none ∧ c = W.dataLt (py a) (py b)) := by
  unfold ltD at h
  split at h
  · cases h; exact .inl ⟨_, _, rfl, rfl, rfl⟩
  · split at h
    · rename_i q
      simp only [Bool.and_eq_true] at q
      injection h with h
      subst h
      refine .inr ⟨q.1.1.1.1.1, q.1.1.1.1.2, q.1.1.1.2, q.1.1.2, q.1.2, ?_, rfl⟩
      have z := q.2
      have w := q.1.1.1.1.1
      intro e
      cases a <;> first | (simp [py] at e; done) | (simp [isNon] at z; done) | (simp [isPy] at w; done)
    · cases h
theorem rd_lt : Rd2 Γ .lt (rLtM Γ.K) := by
  intro G Hm i rr m σ H x y a b d Q R1 ha hb e k
  change b_lt m [a, b] = some d at e
  unfold b_lt at e
  dsimp only at e
  cases e1 : ltD a b with
  | none => rw [e1] at e; cases e
  | some c =>
    rw [e1] at e; cases e
    rcases ltD_of e1 with ⟨n, j, rfl, rfl, rfl⟩ | ⟨p1, p2, p3, p4, p5, p6, rfl⟩
    · exact .inl ⟨n, j, ha.int, hb.int, k.at R1 (.bl _)⟩
    · exact .inr ⟨_, _, ha.dp R1.sub p1, hb.dp R1.sub p2, p3, p6, p4, k.at R1 (.bl _)⟩
theorem alike_symm {a b : PyData} (h : W.alike a b = true) : W.alike b a = true := by rw [W.alike_comm]; exact h
theorem none_alike {a b : PyData} (h : W.alike a b = true) (n : a ≠ .none) : b ≠ .none := fun e => by
  subst e
  cases a <;> simp_all [W.alike]
theorem rd_gt : Rd2 Γ .gt (rGtM Γ.K) := by
  intro G Hm i rr m σ H x y a b d Q R1 ha hb e k
  change b_gt m [a, b] = some d at e
  unfold b_gt at e
  dsimp only at e
  cases e1 : ltD b a with
  | none => rw [e1] at e; cases e
  | some c =>
    rw [e1] at e; cases e
    rcases ltD_of e1 with ⟨n, j, rfl, rfl, rfl⟩ | ⟨p1, p2, p3, p4, p5, p6, rfl⟩
    · exact .inl ⟨j, n, ha.int, hb.int, k.at R1 (.bl _)⟩
    · exact .inr ⟨_, _, ha.dp R1.sub p2, hb.dp R1.sub p1, alike_symm p3, none_alike p3 p6, p5, k.at R1 (.bl _)⟩
theorem rd_le : Rd2 Γ .le (rI0 fun i j => .bl (decide (i ≤ j))) := by
  intro G Hm i rr m σ H x y a b d Q R1 ha hb e k
  change b_le m [a, b] = some d at e
  unfold b_le at e
  split at e
  · rename_i q; cases q; cases e
    exact ⟨_, _, ha.int, hb.int, k.at R1 (.bl _)⟩
  · cases e
theorem rd_ge : Rd2 Γ .ge (rI0 fun i j => .bl (decide (j ≤ i))) := by
  intro G Hm i rr m σ H x y a b d Q R1 ha hb e k
  change b_ge m [a, b] = some d at e
  unfold b_ge at e
  split at e
  · rename_i q; cases q; cases e
    exact ⟨_, _, ha.int, hb.int, k.at R1 (.bl _)⟩
  · cases e
/-- in -/
def rInM (K : PySem.W.Frag) : R2 := fun x y H Q => rInS x y H Q ∨ (rInD K x y H Q ∨ rInTup K false x y H Q)
def rNinM (K : PySem.W.Frag) : R2 := fun x y H Q => rNotInD K x y H Q ∨ rInTup K true x y H Q
theorem hasD_of {x : D} {ys : List D} {c : Bool} (h : hasD x ys = some c) : isPy x = true ∧ isPys ys = true ∧ SeqAt.shaped (py x) = true ∧ SeqAt.shaped (.list (pys ys)) = true ∧ SeqAt.shaped (.tuple (pys ys)) = true ∧ (pys ys).any (fun y => PyData.eqv y (py x)) = c := by
  unfold hasD at h
  split at h
  · rename_i q
    simp only [Bool.and_eq_true] at q
    cases h
    exact ⟨q.1.1.1.1, q.1.1.1.2, q.1.1.2, q.1.2, q.2, rfl⟩
  · cases h
theorem in_seq (x : R Γ G Hm i r m σ H) {v u : V} {a b : D} {ys : List D} {c : Bool} (ha : BRep Γ Hm i H v a) (hb : BRep Γ Hm i H u b) (e1 : seqOf m b = some ys) (e2 : hasD a ys = some c) :
    ∃ d ds, Dp Γ.K H v d ∧ SeqAt.shaped d = true ∧ SeqAt.shaped (.list ds) = true ∧ SeqAt.shaped (.tuple ds) = true ∧ (ds.any fun z => PyData.eqv z d) = c ∧ (Dp Γ.K H u (.list ds) ∨ Dp Γ.K H u (.tuple ds)) := by
  obtain ⟨p1, p2, p3, p4, p5, p6⟩ := hasD_of e2
  obtain ⟨a1, v1, f1, f3, f2⟩ := hb.seq x e1
  refine ⟨_, pys ys, ha.dp x.sub p1, p3, p4, p5, p6, ?_⟩
  subst f1
  rcases f2 with ⟨f2, _⟩ | ⟨f2, _⟩
  · exact .inr (.tup f2 (f3.dp x.sub p2))
  · exact .inl (.lst f2 (f3.dp x.sub p2))
theorem seq_bind {m : List D} {b d : D} {f : List D → Option D} (h : (do let ys ← seqOf m b; f ys) = some d) : ∃ ys, seqOf m b = some ys ∧ f ys = some d := by
  cases e1 : seqOf m b with
  | none => rw [e1] at h; cases h
  | some ys => rw [e1] at h; exact ⟨ys, rfl, h⟩
theorem lst_bind {m : List D} {b d : D} {f : List D → Option D} (h : (do let ys ← lstOf m b; f ys) = some d) : ∃ ys, lstOf m b = some ys ∧ f ys = some d := by
  cases e1 : lstOf m b with
  | none => rw [e1] at h; cases h
  | some ys => rw [e1] at h; exact ⟨ys, rfl, h⟩
theorem lst_seq {m : List D} {b : D} {ys : List D} (h : lstOf m b = some ys) : seqOf m b = some ys ∧ ∀ zs, b ≠ .tup zs := by
  cases b <;> first | (cases h; done) | exact ⟨h, fun _ z => nomatch z⟩
theorem BRep.lsts (x : R Γ G Hm i r m σ H) {v : V} {d : D} {ds : List D} (h : BRep Γ Hm i H v d) (e : lstOf m d = some ds) : ∃ a xs, v = .ref a ∧ Reps Γ Hm i xs ds ∧ SqL Γ.K H a xs := by
  obtain ⟨e1, e2⟩ := lst_seq e
  obtain ⟨a, xs, f1, f2, f3⟩ := h.seq x e1
  rcases f3 with ⟨_, z⟩ | ⟨z, _⟩
  · exact absurd z (e2 _)
  · exact ⟨a, xs, f1, f2, z⟩
theorem map_some {α β : Type} {o : Option α} {f : α → β} {b : β} (h : o.map f = some b) : ∃ a, o = some a ∧ f a = b := by
  cases o with
  | none => cases h
  | some a => cases h; exact ⟨a, rfl, rfl⟩
theorem rd_in : Rd2 Γ .isin (rInM Γ.K) := by
  intro G Hm i rr m σ H x y a b d Q R1 ha hb e k
  change b_isin m [a, b] = some d at e
  unfold b_isin at e
  split at e
  · rename_i q
    obtain ⟨rfl, rfl⟩ := two_eq q
    split at e
    · rename_i z w hz
      cases e
      refine .inl ⟨z.cps.getD 0 0, w, ?_, hb.str, k.at R1 (.bl _)⟩
      rw [ha.str]
      have hz : z.length = 1 := by simpa [letter] using hz
      have : z = ⟨#[z.cps.getD 0 0]⟩ := by
        cases z with
        | mk cps =>
          congr 1
          apply Array.ext
          · simpa [Str.length] using hz
          · intro j h1 h2
            have : j = 0 := by simp at h2; omega
            subst this
            simp [Array.getD, h1]
      rw [← this]
    · cases e
  · rename_i q
    obtain ⟨rfl, rfl⟩ := two_eq q
    obtain ⟨ys, e1, e2⟩ := seq_bind (f := fun ys => (hasD _ ys).map D.bl) e
    obtain ⟨c, e3, rfl⟩ := map_some e2
    obtain ⟨dd, ds, h1, h2, h3, h4, h5, h6⟩ := in_seq R1 ha hb e1 e3
    rcases h6 with h6 | h6
    · exact .inr (.inl ⟨dd, ds, h1, h6, h2, h3, by rw [h5]; exact k.at R1 (.bl _)⟩)
    · exact .inr (.inr ⟨dd, ds, h1, h6, h2, h4, by rw [h5, Bool.false_xor]; exact k.at R1 (.bl _)⟩)
  · cases e
theorem rd_nin : Rd2 Γ .notin (rNinM Γ.K) := by
  intro G Hm i rr m σ H x y a b d Q R1 ha hb e k
  change b_notin m [a, b] = some d at e
  unfold b_notin at e
  · obtain ⟨ys, e1, e2⟩ := seq_bind (f := fun ys => (hasD _ ys).map fun b => D.bl (!b)) e
    obtain ⟨c, e3, rfl⟩ := map_some e2
    obtain ⟨dd, ds, h1, h2, h3, h4, h5, h6⟩ := in_seq R1 ha hb e1 e3
    rcases h6 with h6 | h6
    · exact .inl ⟨dd, ds, h1, h6, h2, h3, by rw [h5]; exact k.at R1 (.bl _)⟩
    · exact .inr ⟨dd, ds, h1, h6, h2, h4, by rw [h5, Bool.true_xor]; exact k.at R1 (.bl _)⟩
/-- is None, is not None -/
theorem rep_non {v : V} {d : D} (h : BRep Γ Hm i H v d) : decide (v = .non) = isNon d := by
  cases d with
  | non => exact decide_eq_true h.non
  | _ =>
    apply decide_eq_false
    intro z
    subst z
    rcases h with h | ⟨_, _, z, _, _⟩
    · cases h
    · cases z
theorem rd_is : Rd2 Γ .is (fun x y H Q => y = .non ∧ Q (.bl (decide (x = .non))) H) := by
  intro G Hm i rr m σ H x y a b d Q R1 ha hb e k
  change b_is m [a, b] = some d at e
  unfold b_is at e
  split at e
  · rename_i q
    obtain ⟨rfl, rfl⟩ := two_eq q
    cases e
    refine ⟨hb.non, ?_⟩
    rw [rep_non ha]
    refine k.at R1 ?_
    cases a <;> exact .bl _
  · cases e
theorem rd_isnot : Rd2 Γ .isnot (fun x y H Q => y = .non ∧ Q (.bl (!decide (x = .non))) H) := by
  intro G Hm i rr m σ H x y a b d Q R1 ha hb e k
  change b_isnot m [a, b] = some d at e
  unfold b_isnot at e
  split at e
  · rename_i q
    obtain ⟨rfl, rfl⟩ := two_eq q
    cases e
    refine ⟨hb.non, ?_⟩
    rw [rep_non ha]
    refine k.at R1 ?_
    cases a <;> exact .bl _
  · cases e
/-! subscripts -/
theorem atI_eq {α : Type} {xs : List α} {n : Int} : L2.atI xs n = if 0 ≤ n then xs[n.toNat]? else if 0 ≤ n + xs.length then xs[(n + xs.length).toNat]? else none := by
  unfold L2.atI ixN
  by_cases h0 : 0 ≤ n
  · rw [if_pos h0, if_pos h0]
    by_cases h1 : n < xs.length
    · rw [if_pos h1]; rfl
    · rw [if_neg h1, List.getElem?_eq_none (by omega)]; rfl
  · rw [if_neg h0, if_neg h0]
    by_cases h1 : -(xs.length : Int) ≤ n
    · rw [if_pos h1, if_pos (by omega)]; rfl
    · rw [if_neg h1, if_neg (by omega)]; rfl
theorem Reps.atI {xs : List V} {ds : List D} (q : Reps Γ Hm i xs ds) {n : Int} {d : D} (h : Mi.atI ds n = some d) : ∃ x, L2.atI xs n = some x ∧ Rep Γ Hm i x d := by
  rw [atI_eq]
  unfold Mi.atI at h
  rw [q.length]
  split at h
  · rw [if_pos (by assumption)]; exact q.get' h
  · rw [if_neg (by assumption)]
    split at h
    · rw [if_pos (by assumption)]; exact q.get' h
    · cases h
theorem rd_idx : Rd2 Γ .idx (rIx Γ.K) := by
  intro G Hm i rr m σ H x y a b d Q R1 ha hb e k
  change b_idx m [a, b] = some d at e
  unfold b_idx at e
  split at e
  · rename_i q
    obtain ⟨rfl, rfl⟩ := two_eq q
    split at e
    · rename_i z n hc
      simp only [Bool.and_eq_true, decide_eq_true_eq] at hc
      refine .inr (.inr ?_)
      unfold Mi.atI charsOf at e
      have : ∃ c, L2.atI z.cps.toList n = some c ∧ d = .str ⟨#[c]⟩ := by
        rw [atI_eq]
        rw [List.length_map] at e
        split at e
        · rw [if_pos (by assumption)]
          rw [List.getElem?_map] at e
          obtain ⟨c, e1, rfl⟩ := map_some e
          exact ⟨c, e1, rfl⟩
        · rw [if_neg (by assumption)]
          split at e
          · rw [if_pos (by assumption)]
            rw [List.getElem?_map] at e
            obtain ⟨c, e1, rfl⟩ := map_some e
            exact ⟨c, e1, rfl⟩
          · cases e
      obtain ⟨c, h1, rfl⟩ := this
      exact ⟨z, n, c, ha.str, hb.int, le_line (by omega), h1, k.at R1 (.str _)⟩
    · cases e
  · rename_i q
    obtain ⟨rfl, rfl⟩ := two_eq q
    rename_i n _
    obtain ⟨ys, e1, e2⟩ := seq_bind (f := fun xs => if small62 n = true then Mi.atI xs n else none) e
    split at e2
    · obtain ⟨a1, v1, f1, f3, f2⟩ := ha.seq R1 e1
      obtain ⟨u, g1, g2⟩ := f3.atI e2
      rcases f2 with ⟨f2, _⟩ | ⟨f2, _⟩
      · exact .inr (.inl ⟨a1, v1, n, u, f1, hb.int, f2, g1, k.at R1 g2⟩)
      · exact .inl ⟨a1, v1, n, u, f1, hb.int, f2, g1, k.at R1 g2⟩
    · cases e2
  · cases e
end
end Mi
end
section
set_option maxRecDepth 100000
/-! Mi: expressions: operators, tests, subscripts, builtins. -/
namespace Mi
open PySem L2
section
variable {X : Cx} {Γ : Glo} {KE : KEt} {kd : Kd} {C : Nat → List D → List D → CO} {ini : Str → Option Nat} {W : Nat} {pos : Pos} {a b c : Expr} {ma mb mc : A}
theorem e_bin {op : Operator} {f : Bi} {r : R2} (ho : OpR X (binaryOp op) r) (hr : Rd2 Γ f r) (ha : PE X a (TO Γ KE (evA C ini ma))) (hb : PE X b (TO Γ KE (evA C ini mb))) : PE X (.BinOp a op b pos) (TM Γ KE (evE C ini (.bi f [ma, mb]))) :=
  pe_weak (pe_op ho ha hb) (tm_bi2 hr)
theorem n_bin {op : Operator} {f : Bi} {r : R2} (ho : OpR X (binaryOp op) r) (hr : Rd2N Γ f r) (ha : PE X a (TO Γ KE (evA C ini ma))) (hb : PE X b (TO Γ KE (evA C ini mb))) : PE X (.BinOp a op b pos) (TN Γ KE (evE C ini (.bi f [ma, mb]))) :=
  pe_weak (pe_op ho ha hb) (tn_bi2 hr)
theorem e_cmp {op : CmpOp} {f : Bi} {r : R2} (ho : OpR X (compareOp op) r) (hr : Rd2 Γ f r) (ha : PE X a (TO Γ KE (evA C ini ma))) (hb : PE X b (TO Γ KE (evA C ini mb))) (hm : behindInMarks op b = false) : PE X (.Compare a [op] [b] pos) (TM Γ KE (evE C ini (.bi f [ma, mb]))) :=
  pe_weak (pe_cmpR ho ha hb hm) (tm_bi2 hr)
theorem tt_of {ev : List Sl → List D → O D} {te : TE} (w : ∀ σ H Q, TM Γ KE ev σ H Q → te σ H Q) : ∀ σ H Q, TB Γ KE (evT ev) σ H Q → tTest te σ H Q := by
  rintro σ H Q ⟨G, Hm, i, r, m, x, h⟩
  refine w σ H _ ⟨G, Hm, i, r, m, x, h.bind.imp fun d r1 m1 Hm1 i1 H1 _ x1 k v rv => ?_⟩
  cases d with
  | bl b => cases rv; exact ⟨b, rfl, k.here x1⟩
  | _ => exact k.elim
theorem t_cmp {op : CmpOp} {f : Bi} {r : R2} (ho : OpR X (compareOp op) r) (hr : Rd2 Γ f r) (ha : PE X a (TO Γ KE (evA C ini ma))) (hb : PE X b (TO Γ KE (evA C ini mb))) (hm : behindInMarks op b = false) : PT X (.Compare a [op] [b] pos) (TB Γ KE (evT (evE C ini (.bi f [ma, mb])))) :=
  pt_weak (pt_cmpR ho ha hb hm) (tt_of (tm_bi2 hr))
/-- a op b op' c -/
theorem tm_chain {f g : Bi} {r r' : R2} {ea eb ec : E} (hr : Rd2 Γ f r) (hr' : Rd2 Γ g r') : ∀ σ H Q, TM Γ KE (evE C ini (.chain f g ea eb ec)) σ H Q → tChain r r' (TM Γ KE (evE C ini ea)) (TM Γ KE (evE C ini eb)) (TM Γ KE (evE C ini ec)) σ H Q := by
  rintro σ H Q ⟨G, Hm, i, r, m, x, h⟩
  rw [evE] at h
  refine ⟨G, Hm, i, r, m, x, h.bind.imp fun d r1 m1 Hm1 i1 H1 _ x1 h1 v rv => ?_⟩
  refine ⟨G, Hm1, i1, r1, m1, x1, h1.bind.imp fun d2 r2 m2 Hm2 i2 H2 g2 x2 h2 v2 rv2 => ?_⟩
  have rv' := rv.go g2
  cases e : biEval m2 f [d, d2] with
  | none => rw [e] at h2; exact h2.elim
  | some z =>
    rw [e] at h2
    refine hr G Hm2 i2 r2 m2 σ H2 v v2 d d2 z _ x2 (.inl rv') (.inl rv2) e fun y Hm3 H3 gr ry => ?_
    cases z with
    | bl b =>
      cases ry
      refine ⟨b, rfl, ?_⟩
      cases b with
      | false =>
        rw [if_neg Bool.false_ne_true]
        exact h2 Hm3 i2 H3 gr.go (x2.grown gr) _ (.bl false)
      | true =>
        rw [if_pos rfl]
        refine ⟨G, Hm3, i2, r2, m2, x2.grown gr, (After.later gr.go h2.bind).imp fun d3 r3 m3 Hm4 i4 H4 g4 x4 h4 v3 rv3 => ?_⟩
        cases e3 : biEval m3 g [d2, d3] with
        | none => rw [e3] at h4; exact h4.elim
        | some z3 =>
          rw [e3] at h4
          refine hr' G Hm4 i4 r3 m3 σ H4 v2 v3 d2 d3 z3 Q x4 (.inl ((rv2.go gr.go).go g4)) (.inl rv3) e3 fun w Hm' H' gr' rw' => ?_
          exact h4 Hm' i4 H' gr'.go (x4.grown gr') w rw'
    | _ => exact h2.elim
theorem e_chain {op op' : CmpOp} {f g : Bi} {r r' : R2} {ea eb ec : E} (ho : OpR X (compareOp op) r) (hr : Rd2 Γ f r) (ho' : OpR X (compareOp op') r') (hr' : Rd2 Γ g r') (ha : PE X a (TM Γ KE (evE C ini ea))) (hb : PE X b (TM Γ KE (evE C ini eb))) (hc : PE X c (TM Γ KE (evE C ini ec)))
    (hm : lastMarks [op, op'] [b, c] = false) : PE X (.Compare a [op, op'] [b, c] pos) (TM Γ KE (evE C ini (.chain f g ea eb ec))) := pe_weak (pe_chain ho ho' ha hb hc hm) (tm_chain hr hr')
theorem t_chain {op op' : CmpOp} {f g : Bi} {r r' : R2} {ea eb ec : E} (ho : OpR X (compareOp op) r) (hr : Rd2 Γ f r) (ho' : OpR X (compareOp op') r') (hr' : Rd2 Γ g r') (ha : PE X a (TM Γ KE (evE C ini ea))) (hb : PE X b (TM Γ KE (evE C ini eb))) (hc : PE X c (TM Γ KE (evE C ini ec)))
    (hm : lastMarks [op, op'] [b, c] = false) : PT X (.Compare a [op, op'] [b, c] pos) (TB Γ KE (evT (evE C ini (.chain f g ea eb ec)))) := pt_weak (pt_chain ho ho' ha hb hc hm) (tt_of (tm_chain hr hr'))
theorem e_ix {f : Bi} {r : R2} (ho : IxR X r) (hr : Rd2 Γ f r) (ha : PE X a (TO Γ KE (evA C ini ma))) (hb : PE X b (TO Γ KE (evA C ini mb))) (hs : PlainIx b) : PE X (.Subscript a b pos) (TM Γ KE (evE C ini (.bi f [ma, mb]))) :=
  pe_weak (pe_ix ho ha hb hs) (tm_bi2 hr)
/-- a builtin's call -/
theorem ev_biL (f : Bi) (as : List A) (r : List Sl) (m : List D) : evE C ini (.bi f as) r m = (evAs C ini as r m).bind fun os r m => match opsD r os with
    | none => .bad
    | some ds => lift (biEval m f ds) r m := by rw [evE] <;> rfl
theorem tm_biL {f : Bi} {as : List A} {rr : List V → Hp → VK → Prop} (hr : RdL Γ f rr) : ∀ σ H Q, TM Γ KE (evE C ini (.bi f as)) σ H Q → tCB rr (TAo Γ KE (evAs C ini as)) σ H Q := by
  rintro σ H Q ⟨G, Hm, i, r, m, x, h⟩
  rw [ev_biL] at h
  refine ⟨G, Hm, i, r, m, x, h.bind.imp fun os r1 m1 Hm1 i1 H1 _ x1 h1 vs rv => ?_⟩
  cases e : opsD r1 os with
  | none => rw [e] at h1; exact h1.elim
  | some ds =>
    rw [e] at h1
    dsimp only at h1
    cases e3 : biEval m1 f ds with
    | none => rw [e3] at h1; exact h1.elim
    | some d =>
      rw [e3] at h1
      refine hr G Hm1 i1 r1 m1 σ H1 vs ds d Q x1 (rv.look x1 e) e3 fun w Hm' H' gr rw' => ?_
      exact h1 Hm' i1 H' gr.go (x1.grown gr) w rw'
theorem tn_biL {f : Bi} {as : List A} {rr : List V → Hp → VK → Prop} (hr : RdLN Γ f rr) : ∀ σ H Q, TN Γ KE (evE C ini (.bi f as)) σ H Q → tCB rr (TAo Γ KE (evAs C ini as)) σ H Q := by
  rintro σ H Q ⟨G, Hm, i, r, m, x, h⟩
  rw [ev_biL] at h
  refine ⟨G, Hm, i, r, m, x, (cont_bind h).bind.imp fun os r1 m1 Hm1 i1 H1 _ x1 h1 vs rv => ?_⟩
  cases e : opsD r1 os with
  | none => rw [e] at h1; exact h1.elim
  | some ds =>
    rw [e] at h1
    dsimp only at h1
    cases e3 : biEval m1 f ds with
    | none => rw [e3] at h1; exact h1.elim
    | some d =>
      rw [e3] at h1
      obtain ⟨hc, h1⟩ := cont_ok h1
      refine hr G Hm1 i1 r1 m1 σ H1 vs ds d Q x1 (rv.look x1 e) e3 hc fun a o Hm' H' gr ha hn hm c => ?_
      exact h1 Hm' i1 H' gr.go (x1.grown gr) a o (x1.newAt gr ha hn hm c)
theorem pl_no {e : Expr} {es : List Expr} {env : Env} (h : (e :: es).all noStar = true) : starEach (e :: es) env = (false, eval e env) :: starEach es env ∧ (backTo pos (starEach es env)).any (·.1) = false := by
  simp only [List.all_cons, Bool.and_eq_true] at h
  refine ⟨star_cons h.1, ?_⟩
  have key : ∀ (es : List Expr), es.all noStar = true → ∀ (p : Pos), (backTo p (starEach es env)).any (·.1) = false := by
    intro es
    induction es with
    | nil => intro _ _; rfl
    | cons e es ih =>
      intro h p
      simp only [List.all_cons, Bool.and_eq_true] at h
      rw [star_cons h.1]
      have := ih h.2 p
      simpa [backTo, List.any_map] using this
  exact key es h.2 pos
theorem e_callB {x : Str} {p : Pos} {id : String} {e : Expr} {es : List Expr} {f : Bi} {as : List A} {r : List V → Hp → VK → Prop} (hc : CallR X (.builtin id) r) (hr : RdL Γ f r) (hg : Gl X x) (hm : X.mg x = none) (hv : bootBuiltins x = some (.builtin id)) (hn : x ≠ "__name__") (hdb : (x == ("__debug__" : Str)) = false)
    (ha : PA X (e :: es) (TAo Γ KE (evAs C ini as))) (hs : (e :: es).all noStar = true) : PE X (.Call (.Name x p) (e :: es) [] pos) (TM Γ KE (evE C ini (.bi f as))) :=
  pe_weak (pe_callB hc hg hm hv ha hn hdb (pl_no (pos := pos) hs).1 (pl_no hs).2) (tm_biL hr)
theorem n_callB {x : Str} {p : Pos} {id : String} {e : Expr} {es : List Expr} {f : Bi} {as : List A} {r : List V → Hp → VK → Prop} (hc : CallR X (.builtin id) r) (hr : RdLN Γ f r) (hg : Gl X x) (hm : X.mg x = none) (hv : bootBuiltins x = some (.builtin id)) (hn : x ≠ "__name__") (hdb : (x == ("__debug__" : Str)) = false)
    (ha : PA X (e :: es) (TAo Γ KE (evAs C ini as))) (hs : (e :: es).all noStar = true) : PE X (.Call (.Name x p) (e :: es) [] pos) (TN Γ KE (evE C ini (.bi f as))) :=
  pe_weak (pe_callB hc hg hm hv ha hn hdb (pl_no (pos := pos) hs).1 (pl_no hs).2) (tn_biL hr)
theorem e_callT {x : Str} {p : Pos} {id : String} {e : Expr} {es : List Expr} {f : Bi} {as : List A} {r : List V → Hp → VK → Prop} (hc : CallR X (.type id) r) (hr : RdL Γ f r) (hg : Gl X x) (hm : X.mg x = none) (hv : bootBuiltins x = some (.type id)) (hn : x ≠ "__name__") (hdb : (x == ("__debug__" : Str)) = false)
    (ha : PA X (e :: es) (TAo Γ KE (evAs C ini as))) (hs : (e :: es).all noStar = true) : PE X (.Call (.Name x p) (e :: es) [] pos) (TM Γ KE (evE C ini (.bi f as))) :=
  pe_weak (pe_callTy hc hg hm hv ha hn hdb (pl_no (pos := pos) hs).1 (pl_no hs).2) (tm_biL hr)
theorem n_callT {x : Str} {p : Pos} {id : String} {e : Expr} {es : List Expr} {f : Bi} {as : List A} {r : List V → Hp → VK → Prop} (hc : CallR X (.type id) r) (hr : RdLN Γ f r) (hg : Gl X x) (hm : X.mg x = none) (hv : bootBuiltins x = some (.type id)) (hn : x ≠ "__name__") (hdb : (x == ("__debug__" : Str)) = false)
    (ha : PA X (e :: es) (TAo Γ KE (evAs C ini as))) (hs : (e :: es).all noStar = true) : PE X (.Call (.Name x p) (e :: es) [] pos) (TN Γ KE (evE C ini (.bi f as))) :=
  pe_weak (pe_callTy hc hg hm hv ha hn hdb (pl_no (pos := pos) hs).1 (pl_no hs).2) (tn_biL hr)
end

/-! ### the builtins, read -/
section
variable {Γ : Glo} {G : Act} {Hm H : Hp} {i : List Addr} {r : List Sl} {m : List D} {σ : St} {Q : VK}
theorem breps1 {vs : List V} {d : D} (h : BReps Γ Hm i H vs [d]) : ∃ v, vs = [v] ∧ BRep Γ Hm i H v d := by
  cases h with
  | cons h t => cases t; exact ⟨_, rfl, h⟩
theorem breps2 {vs : List V} {d e : D} (h : BReps Γ Hm i H vs [d, e]) : ∃ v u, vs = [v, u] ∧ BRep Γ Hm i H v d ∧ BRep Γ Hm i H u e := by
  cases h with
  | cons h t =>
    cases t with
    | cons h2 t => cases t; exact ⟨_, _, rfl, h, h2⟩
def rLenM (K : PySem.W.Frag) : List V → Hp → VK → Prop := fun xs H Q => ∃ x n, xs = [x] ∧ LenV K x H n ∧ Q (.int n) H
theorem rd_len : RdL Γ .len (rLenM Γ.K) := by
  intro G Hm i rr m σ H vs ds d Q R1 hv e k
  change b_len m ds = some d at e
  unfold b_len at e
  split at e
  · rename_i x
    obtain ⟨v, rfl, hw⟩ := breps1 hv
    split at e
    · rename_i hl
      cases e
      exact ⟨v, x.length, rfl, by rw [hw.str]; exact ⟨le_line (by omega), rfl⟩, k.at R1 (.int _)⟩
    · cases e
  · rename_i x _
    obtain ⟨v, rfl, hw⟩ := breps1 hv
    obtain ⟨ys, e1, e2⟩ := seq_bind (f := fun xs => some (.int xs.length)) e
    cases e2
    obtain ⟨a, xs, rfl, h2, h3⟩ := hw.seq R1 e1
    refine ⟨_, ys.length, rfl, ?_, k.at R1 (.int _)⟩
    rcases h3 with ⟨h3, _⟩ | ⟨h3, _⟩
    · exact .inr ⟨xs, h3, h2.length.symm⟩
    · exact .inl ⟨xs, h3, h2.length.symm⟩
  · cases e
theorem allB_of : ∀ {ds : List D} {c : Bool} {xs : List V}, allB ds = some c → Reps Γ Hm i xs ds → ∃ bs : List Bool, xs = bs.map V.bl ∧ c = bs.all id
  | [], c, xs, h, r => by cases h; cases r; exact ⟨[], rfl, rfl⟩
  | d :: ds, c, xs, h, r => by
    cases r with
    | cons r1 r2 =>
      cases d <;> first | (simp [allB] at h; done) | skip
      rename_i b
      simp only [allB] at h
      obtain ⟨c', h1, rfl⟩ := map_some h
      obtain ⟨bs, e1, e2⟩ := allB_of h1 r2
      cases r1
      exact ⟨b :: bs, by rw [e1]; rfl, by simp [e2]⟩
theorem anyB_of : ∀ {ds : List D} {c : Bool} {xs : List V}, anyB ds = some c → Reps Γ Hm i xs ds → ∃ bs : List Bool, xs = bs.map V.bl ∧ c = bs.any id
  | [], c, xs, h, r => by cases h; cases r; exact ⟨[], rfl, rfl⟩
  | d :: ds, c, xs, h, r => by
    cases r with
    | cons r1 r2 =>
      cases d <;> first | (simp [anyB] at h; done) | skip
      rename_i b
      simp only [anyB] at h
      obtain ⟨c', h1, rfl⟩ := map_some h
      obtain ⟨bs, e1, e2⟩ := anyB_of h1 r2
      cases r1
      exact ⟨b :: bs, by rw [e1]; rfl, by simp [e2]⟩
theorem sumI_of : ∀ {ds : List D} {c : Int} {xs : List V}, sumI ds = some c → Reps Γ Hm i xs ds → ∃ bs : List Int, xs = bs.map V.int ∧ c = bs.sum
  | [], c, xs, h, r => by cases h; cases r; exact ⟨[], rfl, rfl⟩
  | d :: ds, c, xs, h, r => by
    cases r with
    | cons r1 r2 =>
      cases d <;> first | (simp [sumI] at h; done) | skip
      rename_i b
      simp only [sumI] at h
      obtain ⟨c', h1, rfl⟩ := map_some h
      obtain ⟨bs, e1, e2⟩ := sumI_of h1 r2
      cases r1
      exact ⟨b :: bs, by rw [e1]; rfl, by simp [e2]⟩
theorem rd_all : RdL Γ .all (rAll Γ.K) := by
  intro G Hm i rr m σ H vs ds d Q R1 hv e k
  change b_all m ds = some d at e
  unfold b_all at e
  split at e
  · obtain ⟨v, rfl, hw⟩ := breps1 hv
    obtain ⟨ys, e1, e2⟩ := lst_bind (f := fun xs => (allB xs).map .bl) e
    obtain ⟨c, e3, rfl⟩ := map_some e2
    obtain ⟨a, xs, rfl, h2, h3⟩ := hw.lsts R1 e1
    obtain ⟨bs, rfl, rfl⟩ := allB_of e3 h2
    exact ⟨a, bs, rfl, h3, k.at R1 (.bl _)⟩
  · cases e
theorem rd_any : RdL Γ .any (rAny Γ.K) := by
  intro G Hm i rr m σ H vs ds d Q R1 hv e k
  change b_any m ds = some d at e
  unfold b_any at e
  split at e
  · obtain ⟨v, rfl, hw⟩ := breps1 hv
    obtain ⟨ys, e1, e2⟩ := lst_bind (f := fun xs => (anyB xs).map .bl) e
    obtain ⟨c, e3, rfl⟩ := map_some e2
    obtain ⟨a, xs, rfl, h2, h3⟩ := hw.lsts R1 e1
    obtain ⟨bs, rfl, rfl⟩ := anyB_of e3 h2
    exact ⟨a, bs, rfl, h3, k.at R1 (.bl _)⟩
  · cases e
theorem rd_sum : RdL Γ .sum (rSum Γ.K) := by
  intro G Hm i rr m σ H vs ds d Q R1 hv e k
  change b_sum m ds = some d at e
  unfold b_sum at e
  split at e
  · obtain ⟨v, rfl, hw⟩ := breps1 hv
    obtain ⟨ys, e1, e2⟩ := lst_bind (f := fun xs => (sumI xs).map .int) e
    obtain ⟨c, e3, rfl⟩ := map_some e2
    obtain ⟨a, xs, rfl, h2, h3⟩ := hw.lsts R1 e1
    obtain ⟨bs, rfl, rfl⟩ := sumI_of e3 h2
    exact ⟨a, bs, rfl, h3, k.at R1 (.int _)⟩
  · cases e
theorem rd_min2 : RdL Γ .min2 (fun xs H Q => ∃ i j, xs = [.int i, .int j] ∧ Q (.int (if j < i then j else i)) H) := by
  intro G Hm i rr m σ H vs ds d Q R1 hv e k
  change b_min2 m ds = some d at e
  unfold b_min2 at e
  split at e
  · cases e
    obtain ⟨v, u, rfl, h1, h2⟩ := breps2 hv
    exact ⟨_, _, by rw [h1.int, h2.int], k.at R1 (.int _)⟩
  · cases e
theorem rd_max2 : RdL Γ .max2 (fun xs H Q => ∃ i j, xs = [.int i, .int j] ∧ Q (.int (if j > i then j else i)) H) := by
  intro G Hm i rr m σ H vs ds d Q R1 hv e k
  change b_max2 m ds = some d at e
  unfold b_max2 at e
  split at e
  · cases e
    obtain ⟨v, u, rfl, h1, h2⟩ := breps2 hv
    exact ⟨_, _, by rw [h1.int, h2.int], k.at R1 (.int _)⟩
  · cases e
theorem rd_abs : RdL Γ .abs (fun xs H Q => ∃ i, xs = [.int i] ∧ Q (.int (if i < 0 then -i else i)) H) := by
  intro G Hm i rr m σ H vs ds d Q R1 hv e k
  change b_abs m ds = some d at e
  unfold b_abs at e
  split at e
  · cases e
    obtain ⟨v, rfl, h1⟩ := breps1 hv
    exact ⟨_, by rw [h1.int], k.at R1 (.int _)⟩
  · cases e
theorem rd_int1 : RdL Γ .int (fun xs H Q => (∃ i, xs = [.int i] ∧ Q (.int i) H) ∨ ∃ k, xs = [.bl k] ∧ Q (.int (if k then 1 else 0)) H) := by
  intro G Hm i rr m σ H vs ds d Q R1 hv e k
  change b_int m ds = some d at e
  unfold b_int at e
  split at e
  · cases e
    obtain ⟨v, rfl, h1⟩ := breps1 hv
    exact .inl ⟨_, by rw [h1.int], k.at R1 (.int _)⟩
  · cases e
    obtain ⟨v, rfl, h1⟩ := breps1 hv
    exact .inr ⟨_, by rw [h1.bl], k.at R1 (.int _)⟩
  · cases e
def rListM (K : PySem.W.Frag) : List V → Hp → VK → Prop := fun xs H Q => ∃ p ys, xs = [.ref p] ∧ (SqL K H p ys ∨ SqT K H p ys) ∧ ∀ l, H l = none → Q (.ref l) (upd H l (.lst ys))
theorem rdn_list : RdLN Γ .list (rListM Γ.K) := by
  intro G Hm i rr m σ H vs ds d Q R1 hv e hc k
  change b_list m ds = some d at e
  unfold b_list at e
  split at e
  · obtain ⟨v, rfl, hw⟩ := breps1 hv
    obtain ⟨ys, e1, e2⟩ := seq_bind (f := fun xs => some (.lst xs)) e
    cases e2
    obtain ⟨a, xs, rfl, h2, h3⟩ := hw.seq R1 e1
    refine ⟨a, xs, rfl, ?_, fn_lst R1 h2 k⟩
    rcases h3 with ⟨h3, _⟩ | ⟨h3, _⟩
    · exact .inr h3
    · exact .inl h3
  · cases e
theorem RdLN.rd {f : Bi} {r : List V → Hp → VK → Prop} (h : RdLN Γ f r) (hc : ∀ m ds d, biEval m f ds = some d → isCont d = true) : RdL Γ f r := by
  intro G Hm i rr m σ H vs ds d Q R1 hv e k
  exact h G Hm i rr m σ H vs ds d Q R1 hv e (hc m ds d e) k.n
theorem rd_list : RdL Γ .list (rListM Γ.K) := rdn_list.rd fun m ds d e => by
  change b_list m ds = some d at e
  unfold b_list at e
  split at e
  · obtain ⟨ys, e1, e2⟩ := seq_bind (f := fun xs => some (.lst xs)) e
    cases e2; rfl
  · cases e
def rTupM (K : PySem.W.Frag) : List V → Hp → VK → Prop := fun xs H Q => ∃ p ys, xs = [.ref p] ∧ ((SqL K H p ys ∧ ∀ l, H l = none → Q (.ref l) (upd H l (.tup ys))) ∨ (SqT K H p ys ∧ Q (.ref p) H))
theorem rd_tuple : RdL Γ .tuple (rTupM Γ.K) := by
  intro G Hm i rr m σ H vs ds d Q R1 hv e k
  change b_tuple m ds = some d at e
  unfold b_tuple at e
  split at e
  · rename_i x
    obtain ⟨v, rfl, hw⟩ := breps1 hv
    obtain ⟨ys, e1, e2⟩ := seq_bind (f := fun xs => some (.tup xs)) e
    cases e2
    obtain ⟨a, xs, rfl, h2, h3⟩ := hw.seq R1 e1
    refine ⟨a, xs, rfl, ?_⟩
    rcases h3 with ⟨h3, h4⟩ | ⟨h3, _⟩
    · subst h4
      obtain ⟨a', xs', z, y1, y2, y3⟩ := hw.tup R1.sub
      cases z
      exact .inr ⟨h3, k.at R1 (.tup y2 y3)⟩
    · exact .inl ⟨h3, fk_tup R1 h2 k⟩
  · cases e
end
end Mi
end
section
set_option maxRecDepth 100000
/-! Mi: slices, sorted, isinstance, attributes. -/
namespace Mi
open PySem L2
section
variable {Γ : Glo} {G : Act} {Hm H : Hp} {i : List Addr} {r : List Sl} {m : List D} {σ : St} {Q : VK}
theorem reps_take {xs : List V} {ds : List D} (h : Reps Γ Hm i xs ds) : ∀ n, Reps Γ Hm i (xs.take n) (ds.take n) := by
  intro n
  induction n generalizing xs ds with
  | zero => simp; exact .nil
  | succ n ih => cases h with
    | nil => simp; exact .nil
    | cons a t => simp; exact .cons a (ih t)
theorem reps_drop {xs : List V} {ds : List D} (h : Reps Γ Hm i xs ds) : ∀ n, Reps Γ Hm i (xs.drop n) (ds.drop n) := by
  intro n
  induction n generalizing xs ds with
  | zero => simpa using h
  | succ n ih => cases h with
    | nil => simp; exact .nil
    | cons a t => simp; exact ih t
theorem reps_rev {xs : List V} {ds : List D} (h : Reps Γ Hm i xs ds) : Reps Γ Hm i xs.reverse ds.reverse := by
  induction xs generalizing ds with
  | nil => cases h; exact .nil
  | cons x xs ih => cases h with
    | cons a t => simp; exact (ih t).app (.cons a .nil)
theorem cut_eq (xs : List V) (lo hi : Option Int) : cutV xs lo hi = (xs.take (shi xs.length hi)).drop (slo xs.length lo) := by
  unfold cutV
  rw [List.drop_take]
  cases lo <;> cases hi <;> rfl
theorem reps_cut {xs : List V} {ds : List D} (h : Reps Γ Hm i xs ds) (lo hi : Option Int) : Reps Γ Hm i (cutV xs lo hi) (slice ds lo hi) := by
  rw [cut_eq]
  unfold slice
  rw [h.length]
  exact reps_drop (reps_take h _) _
/-- a slice of a list or a tuple -/
def rSlM (K : PySem.W.Frag) : V → Option Int → Option Int → Hp → VK → Prop := fun x lo hi H Q => rSlL K x lo hi H Q ∨ rSlA K x lo hi H Q
theorem sl_M {X : Cx} : SlR X (rSlM X.K) := sl_list.or sl_tupA
theorem whole_slice {Γ : Glo} {Hm : Hp} {i : List Addr} {xs : List V} {ds : List D} {lo hi : Option Int} (h : Reps Γ Hm i xs ds) (e : HT.sIx xs.length 0 lo = 0 ∧ HT.sIx xs.length xs.length hi = xs.length) : slice ds lo hi = ds := by
  unfold slice
  obtain ⟨e1, e2⟩ := e
  rw [h.length] at e1 e2
  have e3 : shi ds.length hi = ds.length := by cases hi <;> exact e2
  have e4 : slo ds.length lo = 0 := by cases lo <;> exact e1
  rw [e3, e4, List.take_length, List.drop_zero]
theorem sl_read (x : R Γ G Hm i r m σ H) {v : V} {d : D} {ds : List D} {lo hi : Option Int} (hv : BRep Γ Hm i H v d) (e : seqOf m d = some ds) (k : FK Γ Hm i H (sliceD d (slice ds lo hi)) Q) : rSlM Γ.K v lo hi H Q := by
  obtain ⟨a, xs, rfl, h2, h3⟩ := hv.seq x e
  rcases h3 with ⟨h3, rfl⟩ | ⟨h3, h4⟩
  · obtain ⟨a', xs', z, y1, y2, y3⟩ := hv.tup x.sub
    cases z
    refine .inr ⟨a, xs, rfl, h3, fun hw => ?_, fun _ p hp => fk_tup x (reps_cut h2 lo hi) k p hp⟩
    have e' := whole_slice h2 hw
    have k : FK Γ Hm i H (.tup (slice ds lo hi)) Q := k
    rw [e'] at k
    exact k.at x (.tup y2 y3)
  · have e2 : sliceD d (slice ds lo hi) = .lst (slice ds lo hi) := by
      unfold sliceD
      split
      · exact absurd rfl (h4 _)
      · rfl
    rw [e2] at k
    exact .inl ⟨a, xs, rfl, h3, fn_lst x (reps_cut h2 lo hi) k.n⟩
theorem sl_readN (x : R Γ G Hm i r m σ H) {v : V} {d : D} {ds : List D} {lo hi : Option Int} (hv : BRep Γ Hm i H v d) (e : seqOf m d = some ds) (hd : ∀ xs, d ≠ .tup xs) (k : FN Γ Hm i H (.lst (slice ds lo hi)) Q) : rSlM Γ.K v lo hi H Q := by
  obtain ⟨a, xs, rfl, h2, h3⟩ := hv.seq x e
  rcases h3 with ⟨h3, rfl⟩ | ⟨h3, h4⟩
  · exact absurd rfl (hd _)
  · exact .inl ⟨a, xs, rfl, h3, fn_lst x (reps_cut h2 lo hi) k⟩
end
section
variable {X : Cx} {Γ : Glo} {KE : KEt} {C : Nat → List D → List D → CO} {ini : Str → Option Nat} {pos p2 : Pos} {a b c : Expr} {ma mb mc : A}
theorem o_sl {G : Act} {σ : St} {Hm : Hp} {i : List Addr} {r : List Sl} {m : List D} {o : Op} {lo hi : Option Int} {K : D → List Sl → List D → Hp → List Addr → Hp → Prop} (h : After Γ G σ KE Hm i (lift ((opD r o).bind (sliceOf m lo hi)) r m) K) :
    ∃ d ds, opD r o = some d ∧ seqOf m d = some ds ∧ After Γ G σ KE Hm i (.ok (sliceD d (slice ds lo hi)) r m) K := by
  cases e : opD r o with
  | none => rw [e] at h; exact h.elim
  | some d =>
    rw [e] at h
    unfold sliceOf at h
    cases e2 : seqOf m d with
    | none => simp only [Option.bind, e2, Option.map] at h; exact h.elim
    | some ds => simp only [Option.bind, e2, Option.map] at h; exact ⟨d, ds, rfl, e2, h⟩
theorem o_slN {G : Act} {σ : St} {Hm : Hp} {i : List Addr} {r : List Sl} {m : List D} {o : Op} {lo hi : Option Int} {K : D → List Sl → List D → Hp → List Addr → Hp → Prop} (h : After Γ G σ KE Hm i (contO (lift ((opD r o).bind (sliceOf m lo hi)) r m)) K) :
    ∃ d ds, opD r o = some d ∧ seqOf m d = some ds ∧ (∀ xs, d ≠ .tup xs) ∧ After Γ G σ KE Hm i (.ok (.lst (slice ds lo hi)) r m) K := by
  cases e : opD r o with
  | none => rw [e] at h; exact h.elim
  | some d =>
    rw [e] at h
    unfold sliceOf at h
    cases e2 : seqOf m d with
    | none => simp only [Option.bind, e2, Option.map] at h; exact h.elim
    | some ds =>
      simp only [Option.bind, e2, Option.map, lift] at h
      obtain ⟨hc, h⟩ := cont_ok h
      have nt : ∀ xs, d ≠ .tup xs := fun xs z => by subst z; cases hc
      refine ⟨d, ds, rfl, e2, nt, ?_⟩
      have e3 : sliceD d (slice ds lo hi) = .lst (slice ds lo hi) := by
        unfold sliceD
        split
        · exact absurd rfl (nt _)
        · rfl
      rw [e3] at h; exact h
variable {ea eb ec : E}
theorem tm_s00 : ∀ σ H Q, TM Γ KE (evE C ini (.s00 ma)) σ H Q → tSl (rSlM Γ.K) (TO Γ KE (evA C ini ma)) tNoPart tNoPart σ H Q := by
  rintro σ H Q ⟨G, Hm, i, r, m, x, h⟩
  rw [evE] at h
  refine ⟨G, Hm, i, r, m, x, h.bind.imp fun o r1 m1 Hm1 i1 H1 _ x1 h1 v rv => ?_⟩
  obtain ⟨d, ds, e1, e2, h1⟩ := o_sl h1
  exact sl_read x1 (rv.look x1 e1) e2 fun w Hm' H' gr rw' => h1 Hm' i1 H' gr.go (x1.grown gr) w rw'
theorem tm_s10 : ∀ σ H Q, TM Γ KE (evE C ini (.s10 ma eb)) σ H Q → tSl (rSlM Γ.K) (TO Γ KE (evA C ini ma)) (tPart (TM Γ KE (evE C ini eb))) tNoPart σ H Q := by
  rintro σ H Q ⟨G, Hm, i, r, m, x, h⟩
  rw [evE] at h
  refine ⟨G, Hm, i, r, m, x, h.bind.imp fun o r1 m1 Hm1 i1 H1 _ x1 h1 v rv => ?_⟩
  refine ⟨G, Hm1, i1, r1, m1, x1, h1.bind.imp fun p r2 m2 Hm2 i2 H2 g2 x2 h2 u ru => ?_⟩
  cases p <;> first | exact h2.elim | skip
  cases ru
  obtain ⟨d, ds, e1, e2, h2⟩ := o_sl h2
  exact ⟨_, rfl, sl_read x2 ((rv.go g2).look x2 e1) e2 fun w Hm' H' gr rw' => h2 Hm' i2 H' gr.go (x2.grown gr) w rw'⟩
theorem tm_s01 : ∀ σ H Q, TM Γ KE (evE C ini (.s01 ma eb)) σ H Q → tSl (rSlM Γ.K) (TO Γ KE (evA C ini ma)) tNoPart (tPart (TM Γ KE (evE C ini eb))) σ H Q := by
  rintro σ H Q ⟨G, Hm, i, r, m, x, h⟩
  rw [evE] at h
  refine ⟨G, Hm, i, r, m, x, h.bind.imp fun o r1 m1 Hm1 i1 H1 _ x1 h1 v rv => ?_⟩
  refine ⟨G, Hm1, i1, r1, m1, x1, h1.bind.imp fun p r2 m2 Hm2 i2 H2 g2 x2 h2 u ru => ?_⟩
  cases p <;> first | exact h2.elim | skip
  cases ru
  obtain ⟨d, ds, e1, e2, h2⟩ := o_sl h2
  exact ⟨_, rfl, sl_read x2 ((rv.go g2).look x2 e1) e2 fun w Hm' H' gr rw' => h2 Hm' i2 H' gr.go (x2.grown gr) w rw'⟩
theorem tm_s11 : ∀ σ H Q, TM Γ KE (evE C ini (.s11 ma eb ec)) σ H Q → tSl (rSlM Γ.K) (TO Γ KE (evA C ini ma)) (tPart (TM Γ KE (evE C ini eb))) (tPart (TM Γ KE (evE C ini ec))) σ H Q := by
  rintro σ H Q ⟨G, Hm, i, r, m, x, h⟩
  rw [evE] at h
  refine ⟨G, Hm, i, r, m, x, h.bind.imp fun o r1 m1 Hm1 i1 H1 _ x1 h1 v rv => ?_⟩
  refine ⟨G, Hm1, i1, r1, m1, x1, h1.bind.imp fun p r2 m2 Hm2 i2 H2 g2 x2 h2 u ru => ?_⟩
  cases p <;> first | exact h2.elim | skip
  cases ru
  refine ⟨_, rfl, G, Hm2, i2, r2, m2, x2, h2.bind.imp fun q r3 m3 Hm3 i3 H3 g3 x3 h3 u3 ru3 => ?_⟩
  cases q <;> first | exact h3.elim | skip
  cases ru3
  obtain ⟨d, ds, e1, e2, h3⟩ := o_sl h3
  exact ⟨_, rfl, sl_read x3 ((rv.go (g2.trans g3)).look x3 e1) e2 fun w Hm' H' gr rw' => h3 Hm' i3 H' gr.go (x3.grown gr) w rw'⟩
theorem tn_s00 : ∀ σ H Q, TN Γ KE (evE C ini (.s00 ma)) σ H Q → tSl (rSlM Γ.K) (TO Γ KE (evA C ini ma)) tNoPart tNoPart σ H Q := by
  rintro σ H Q ⟨G, Hm, i, r, m, x, h⟩
  rw [evE] at h
  refine ⟨G, Hm, i, r, m, x, (cont_bind h).bind.imp fun o r1 m1 Hm1 i1 H1 _ x1 h1 v rv => ?_⟩
  obtain ⟨d, ds, e1, e2, nt, h1⟩ := o_slN h1
  exact sl_readN x1 (rv.look x1 e1) e2 nt fun a u Hm' H' gr ha hn hm c => h1 Hm' i1 H' gr.go (x1.grown gr) a u (x1.newAt gr ha hn hm c)
theorem tn_s10 : ∀ σ H Q, TN Γ KE (evE C ini (.s10 ma eb)) σ H Q → tSl (rSlM Γ.K) (TO Γ KE (evA C ini ma)) (tPart (TM Γ KE (evE C ini eb))) tNoPart σ H Q := by
  rintro σ H Q ⟨G, Hm, i, r, m, x, h⟩
  rw [evE] at h
  refine ⟨G, Hm, i, r, m, x, (cont_bind h).bind.imp fun o r1 m1 Hm1 i1 H1 _ x1 h1 v rv => ?_⟩
  refine ⟨G, Hm1, i1, r1, m1, x1, (cont_bind h1).bind.imp fun p r2 m2 Hm2 i2 H2 g2 x2 h2 u ru => ?_⟩
  cases p <;> first | exact h2.elim | skip
  cases ru
  obtain ⟨d, ds, e1, e2, nt, h2⟩ := o_slN h2
  exact ⟨_, rfl, sl_readN x2 ((rv.go g2).look x2 e1) e2 nt fun a u Hm' H' gr ha hn hm c => h2 Hm' i2 H' gr.go (x2.grown gr) a u (x2.newAt gr ha hn hm c)⟩
theorem tn_s01 : ∀ σ H Q, TN Γ KE (evE C ini (.s01 ma eb)) σ H Q → tSl (rSlM Γ.K) (TO Γ KE (evA C ini ma)) tNoPart (tPart (TM Γ KE (evE C ini eb))) σ H Q := by
  rintro σ H Q ⟨G, Hm, i, r, m, x, h⟩
  rw [evE] at h
  refine ⟨G, Hm, i, r, m, x, (cont_bind h).bind.imp fun o r1 m1 Hm1 i1 H1 _ x1 h1 v rv => ?_⟩
  refine ⟨G, Hm1, i1, r1, m1, x1, (cont_bind h1).bind.imp fun p r2 m2 Hm2 i2 H2 g2 x2 h2 u ru => ?_⟩
  cases p <;> first | exact h2.elim | skip
  cases ru
  obtain ⟨d, ds, e1, e2, nt, h2⟩ := o_slN h2
  exact ⟨_, rfl, sl_readN x2 ((rv.go g2).look x2 e1) e2 nt fun a u Hm' H' gr ha hn hm c => h2 Hm' i2 H' gr.go (x2.grown gr) a u (x2.newAt gr ha hn hm c)⟩
theorem cont_match {x : D} {f : Int → O D} : contO (match x with | .int n => f n | _ => .bad) = (match x with | .int n => contO (f n) | _ => .bad) := by
  cases x <;> rfl
theorem tn_s11 : ∀ σ H Q, TN Γ KE (evE C ini (.s11 ma eb ec)) σ H Q → tSl (rSlM Γ.K) (TO Γ KE (evA C ini ma)) (tPart (TM Γ KE (evE C ini eb))) (tPart (TM Γ KE (evE C ini ec))) σ H Q := by
  rintro σ H Q ⟨G, Hm, i, r, m, x, h⟩
  rw [evE] at h
  refine ⟨G, Hm, i, r, m, x, (cont_bind h).bind.imp fun o r1 m1 Hm1 i1 H1 _ x1 h1 v rv => ?_⟩
  refine ⟨G, Hm1, i1, r1, m1, x1, (cont_bind h1).bind.imp fun p r2 m2 Hm2 i2 H2 g2 x2 h2 u ru => ?_⟩
  cases p <;> first | exact h2.elim | skip
  cases ru
  refine ⟨_, rfl, G, Hm2, i2, r2, m2, x2, (cont_bind h2).bind.imp fun q r3 m3 Hm3 i3 H3 g3 x3 h3 u3 ru3 => ?_⟩
  cases q <;> first | exact h3.elim | skip
  cases ru3
  obtain ⟨d, ds, e1, e2, nt, h3⟩ := o_slN h3
  exact ⟨_, rfl, sl_readN x3 ((rv.go (g2.trans g3)).look x3 e1) e2 nt fun a u Hm' H' gr ha hn hm c => h3 Hm' i3 H' gr.go (x3.grown gr) a u (x3.newAt gr ha hn hm c)⟩
theorem sl_K (hK : X.K = Γ.K) : SlR X (rSlM Γ.K) := hK ▸ sl_M
/-- xs[::-1] -/
def rRevM (K : PySem.W.Frag) : V → Hp → VK → Prop := fun x H1 Q => ∃ a xs, x = .ref a ∧ SqL K H1 a xs ∧ ∀ p, H1 p = none → Q (.ref p) (upd H1 p (.lst xs.reverse))
theorem tm_rev (hK : X.K = Γ.K) : ∀ σ H Q, TM Γ KE (evE C ini (.bi .rev [ma])) σ H Q → tRevL X.K (TO Γ KE (evA C ini ma)) σ H Q := by
  rintro σ H Q ⟨G, Hm, i, r, m, x, h⟩
  rw [ev_bi1] at h
  refine ⟨G, Hm, i, r, m, x, h.bind.imp fun o r1 m1 Hm1 i1 H1 _ x1 h1 v rv => ?_⟩
  cases e : opsD r1 [o] with
  | none => rw [e] at h1; exact h1.elim
  | some ds =>
    obtain ⟨a', rfl, ea⟩ := one e
    rw [e] at h1
    have h1 : After Γ G σ KE Hm1 i1 (lift (b_rev m1 [a']) r1 m1) _ := h1
    cases e3 : b_rev m1 [a'] with
    | none => rw [e3] at h1; exact h1.elim
    | some d =>
      rw [e3] at h1
      obtain ⟨ys, f1, f2⟩ := lst_bind (f := fun xs => some (.lst xs.reverse)) e3
      cases f2
      obtain ⟨a, xs, rfl, g1, g2⟩ := (rv.look x1 ea).lsts x1 f1
      refine ⟨a, xs, rfl, by rw [hK]; exact g2, fk_lst x1 (reps_rev g1) fun w Hm' H' gr rw' => h1 Hm' i1 H' gr.go (x1.grown gr) w rw'⟩
theorem tn_rev (hK : X.K = Γ.K) : ∀ σ H Q, TN Γ KE (evE C ini (.bi .rev [ma])) σ H Q → tRevL X.K (TO Γ KE (evA C ini ma)) σ H Q := by
  rintro σ H Q ⟨G, Hm, i, r, m, x, h⟩
  rw [ev_bi1] at h
  refine ⟨G, Hm, i, r, m, x, (cont_bind h).bind.imp fun o r1 m1 Hm1 i1 H1 _ x1 h1 v rv => ?_⟩
  cases e : opsD r1 [o] with
  | none => rw [e] at h1; exact h1.elim
  | some ds =>
    obtain ⟨a', rfl, ea⟩ := one e
    rw [e] at h1
    have h1 : After Γ G σ KE Hm1 i1 (contO (lift (b_rev m1 [a']) r1 m1)) _ := h1
    cases e3 : b_rev m1 [a'] with
    | none => rw [e3] at h1; exact h1.elim
    | some d =>
      rw [e3] at h1
      obtain ⟨_, h1⟩ := cont_ok h1
      obtain ⟨ys, f1, f2⟩ := lst_bind (f := fun xs => some (.lst xs.reverse)) e3
      cases f2
      obtain ⟨a, xs, rfl, g1, g2⟩ := (rv.look x1 ea).lsts x1 f1
      refine ⟨a, xs, rfl, by rw [hK]; exact g2, fn_lst x1 (reps_rev g1) fun a u Hm' H' gr ha hn hm c => h1 Hm' i1 H' gr.go (x1.grown gr) a u (x1.newAt gr ha hn hm c)⟩
end
end Mi
end
section
set_option maxRecDepth 100000
/-! Mi: sorted, isinstance, attributes. -/
namespace Mi
open PySem L2
/-! ### sorted -/
def rSortM (K : PySem.W.Frag) (rev : Bool) : List V → Hp → VK → Prop := fun xs H Q => ∃ (a : Addr) (bs : List (V × D)), xs = [.ref a] ∧ SqL K H a (bs.map (·.1)) ∧ (∀ p ∈ bs, Dp K H p.1 (py p.2)) ∧ sortable (bs.map (·.2)) = true ∧
  ∀ l, H l = none → Q (.ref l) (upd H l (.lst ((bs.mergeSort (W.dataLe rev fun p => py p.2)).map (·.1))))
theorem each_of {α β : Type} {R : α → β → Prop} : ∀ {as : List α} {bs : List β}, as.length = bs.length → (∀ (n : Nat) a b, as[n]? = some a → bs[n]? = some b → R a b) → W.EachIs R as bs
  | [], [], _, _ => .nil
  | a :: as, b :: bs, hl, h => .cons (h 0 a b rfl rfl) (each_of (by simpa using hl) fun n a b h1 h2 => h (n + 1) a b (by simpa using h1) (by simpa using h2))
  | [], _ :: _, hl, _ => by cases hl
  | _ :: _, [], hl, _ => by cases hl
theorem vals_each : ∀ {bs : List (V × D)} {out : List Value}, W.EachIs (fun v (p : V × D) => RelV p.1 v) out bs → Vals (bs.map (·.1)) out
  | _, _, .nil => .nil
  | _, _, .cons h t => .cons h (vals_each t)
theorem sortable_of {bs : List (V × D)} (h : sortable (bs.map (·.2)) = true) : W.AllAlike (bs.map fun p => py p.2) ∧ W.Sortable (bs.map fun p => py p.2) ∧ bs.length ≤ 1000000 ∧ (∀ p ∈ bs, isPy p.2 = true) ∧ ∀ p ∈ bs, SeqAt.shaped (py p.2) = true := by
  unfold sortable at h
  simp only [Bool.and_eq_true, decide_eq_true_eq, List.length_map] at h
  obtain ⟨⟨⟨⟨h1, h2⟩, h3⟩, h4⟩, h5⟩ := h
  have hp : ∀ {l : List D}, isPys l = true → ∀ d ∈ l, isPy d = true := by
    intro l
    induction l with
    | nil => intro _ d hd; cases hd
    | cons x xs ih =>
      intro h d hd
      simp only [isPys, Bool.and_eq_true] at h
      rcases List.mem_cons.mp hd with rfl | hd
      · exact h.1
      · exact ih h.2 d hd
  have hpy := hp h1
  refine ⟨fun d hd d' hd' => ?_, ?_, h3, fun p hp' => hpy _ (List.mem_map.mpr ⟨p, hp', rfl⟩), fun p hp' => ?_⟩
  · obtain ⟨p, hp, rfl⟩ := List.mem_map.mp hd
    obtain ⟨q, hq, rfl⟩ := List.mem_map.mp hd'
    exact List.all_eq_true.mp (List.all_eq_true.mp h2 _ (List.mem_map.mpr ⟨p, hp, rfl⟩)) _ (List.mem_map.mpr ⟨q, hq, rfl⟩)
  · rw [Bool.or_eq_true] at h4
    rcases h4 with h4 | h4
    · refine .inl fun d hd => ?_
      obtain ⟨p, hp, rfl⟩ := List.mem_map.mp hd
      have z := List.all_eq_true.mp h4 _ (List.mem_map.mpr ⟨p, hp, rfl⟩)
      cases e : p.2 with
      | tup xs =>
        rw [e] at z
        cases xs with
        | nil => cases z
        | cons x xs => exact ⟨_, _, rfl⟩
      | _ => rw [e] at z; cases z
    · refine .inr fun d hd => ?_
      obtain ⟨p, hp, rfl⟩ := List.mem_map.mp hd
      have z := List.all_eq_true.mp h4 _ (List.mem_map.mpr ⟨p, hp, rfl⟩)
      cases e : p.2 with
      | tup xs => rw [e] at z; cases z
      | non => rw [e] at z; cases z
      | _ => exact ⟨by simp [py], by simp [py]⟩
  · exact List.all_eq_true.mp h5 _ (List.mem_map.mpr ⟨p, hp', rfl⟩)
theorem cr_sortM {X : Cx} (hu : X.A.units + 70 < cLine) : CallR X (.builtin "sorted") (rSortM X.K false) := by
  intro pins s σ H xs us Q I r h
  obtain ⟨a, bs, rfl, hs, hd, hso, q⟩ := h
  obtain ⟨its, rv, hl, hz⟩ := I.list hs
  rw [Vals.ref1 r]
  obtain ⟨h1, h2, h3, h4, h5⟩ := sortable_of hso
  have hlen := rv.length
  rw [List.length_map] at hlen
  refine PySem.W.sorted_data (vs := its) (bs := bs) (enc := fun p => py p.2) (R := fun v p => RelV p.1 v) (by simpa using hl.isList) (each_of hlen.symm fun n v p e1 e2 => ?_) (each_of hlen.symm fun n v p e1 e2 => ?_) h1 h2 (le_line h3) (fun p hp => ?_) fun out ho eo => ?_
  · obtain ⟨u, f1, f2⟩ := rv.get (i := n) (x := p.1) (by rw [List.getElem?_map, e2]; rfl)
    rw [e1] at f1; cases f1; exact f2
  · obtain ⟨u, f1, f2⟩ := rv.get (i := n) (x := p.1) (by rw [List.getElem?_map, e2]; rfl)
    rw [e1] at f1; cases f1
    exact Dp.reads I _ _ _ (hd p (List.mem_of_getElem? e2)) f2
  · have := SeqAt.depth_of_shaped (h5 p hp)
    omega
  · obtain ⟨ep, he'⟩ := PyProof.Rows.sortedAll_at s.heap its out.toArray
    have hlen2 : ((bs.mergeSort (W.dataLe false fun p => py p.2)).map (·.1)).length ≤ sizeLine := by rw [List.length_map, List.length_mergeSort]; exact le_line h3
    exact ⟨.ref _, _, I.laid (t' := s.toks) (o := .lst ((bs.mergeSort (W.dataLe false fun p => py p.2)).map (·.1))) (fun _ _ => PyProof.Rows.sortedAll_old) (Nat.le_succ _) ⟨hlen2, out, ep, vals_each eo, by simpa using he'⟩, rfl, q _ (I.hok.fresh (Nat.le_succ _))⟩
section
variable {Γ : Glo} {G : Act} {Hm H : Hp} {i : List Addr} {r : List Sl} {m : List D} {σ : St} {Q : VK}
theorem reps_zip : ∀ {xs : List V} {ds : List D}, Reps Γ Hm i xs ds → ((xs.zip ds).map (·.1) = xs ∧ (xs.zip ds).map (·.2) = ds) ∧ ∀ p ∈ xs.zip ds, Rep Γ Hm i p.1 p.2
  | _, _, .nil => ⟨⟨rfl, rfl⟩, fun p hp => by simp at hp⟩
  | _, _, .cons h t => by
    obtain ⟨⟨h1, h2⟩, h3⟩ := reps_zip t
    refine ⟨⟨by simp [h1], by simp [h2]⟩, fun p hp => ?_⟩
    rcases List.mem_cons.mp (by simpa using hp) with rfl | hp
    · exact h
    · exact h3 p hp
theorem reps_all : ∀ {bs : List (V × D)}, (∀ p ∈ bs, Rep Γ Hm i p.1 p.2) → Reps Γ Hm i (bs.map (·.1)) (bs.map (·.2))
  | [], _ => .nil
  | p :: bs, h => .cons (h p List.mem_cons_self) (reps_all fun q hq => h q (List.mem_cons_of_mem _ hq))
theorem sort_map (bs : List (V × D)) : (bs.mergeSort (W.dataLe false fun p => py p.2)).map (·.2) = (bs.map (·.2)).mergeSort leD :=
  List.map_mergeSort (f := fun p : V × D => p.2) (r := W.dataLe false fun p => py p.2) (s := leD) (fun a _ b _ => rfl)
theorem sort_read (x : R Γ G Hm i r m σ H) {v : V} {d : D} {ds : List D} (hv : BRep Γ Hm i H v d) (e : lstOf m d = some ds) (hs : sortable ds = true) (k : FN Γ Hm i H (.lst (ds.mergeSort leD)) Q) : rSortM Γ.K false [v] H Q := by
  obtain ⟨a, xs, rfl, h2, h3⟩ := hv.lsts x e
  obtain ⟨⟨e1, e2⟩, e3⟩ := reps_zip h2
  refine ⟨a, xs.zip ds, rfl, by rw [e1]; exact h3, fun p hp => ?_, by rw [e2]; exact hs, fn_lst x ?_ k⟩
  · exact (e3 p hp).dp x.sub ((sortable_of (bs := xs.zip ds) (by rw [e2]; exact hs)).2.2.2.1 p hp)
  · have z : Reps Γ Hm i ((xs.zip ds).mergeSort (W.dataLe false fun p => py p.2) |>.map (·.1)) _ := reps_all fun p hp => e3 p ((List.mergeSort_perm ..).mem_iff.mp hp)
    rw [sort_map, e2] at z
    exact z
theorem rdn_sort : RdLN Γ .sort (rSortM Γ.K false) := by
  intro G Hm i rr m σ H vs ds d Q R1 hv e hc k
  change b_sort m ds = some d at e
  unfold b_sort at e
  split at e
  · obtain ⟨v, rfl, hw⟩ := breps1 hv
    obtain ⟨ys, e1, e2⟩ := lst_bind (f := fun xs => (sortD xs).map .lst) e
    obtain ⟨c, e3, rfl⟩ := map_some e2
    unfold sortD at e3
    split at e3
    · cases e3
      exact sort_read R1 hw e1 (by assumption) k
    · cases e3
  · cases e
theorem rd_sort : RdL Γ .sort (rSortM Γ.K false) := rdn_sort.rd fun m ds d e => by
  change b_sort m ds = some d at e
  unfold b_sort at e
  split at e
  · obtain ⟨ys, e1, e2⟩ := lst_bind (f := fun xs => (sortD xs).map .lst) e
    obtain ⟨c, e3, rfl⟩ := map_some e2
    rfl
  · cases e
end

/-! ### isinstance -/
/-- what the written part says of the classes -/
structure GOk (Γ : Glo) (fl : List Str) : Prop where
  cls : ∀ c C, Γ.cA c = some C → Cls Γ.K C
  noat : ∀ c C, Γ.cA c = some C → ∀ f ∈ fl, NoAttr Γ.K C f
  isc : ∀ c C, Γ.cA c = some C → PySem.W.findIn Γ.K (.ref C) "__class__" = some (some (.builtin "object.__class__")) ∧ PySem.W.specialIn Γ.K (.builtin "object.__class__") "__get__" = some (some (.builtin "getset_descriptor.__get__")) ∧
    PySem.W.takesIn Γ.K (.builtin "object.__class__") = some true ∧ PySem.W.mroIn Γ.K C (.type "object") = some true
  k1 : ∀ c C, Γ.cA c = some C → ∀ t ∈ (["NoneType", "bool", "int", "str", "tuple", "list", "dict"] : List String), PySem.W.kitOne Γ.K (.type t) (.ref C) = some false ∧ PySem.W.kitOne Γ.K (.ref C) (.type t) = some false
  k2 : ∀ c C c' C', Γ.cA c = some C → Γ.cA c' = some C' → PySem.W.kitOne Γ.K (.ref C) (.ref C') = some (decide (c = c'))
/-- the type of a value -/
def tyD (Γ : Glo) : D → Option Value
  | .non => some (.type "NoneType")
  | .bl _ => some (.type "bool")
  | .int _ => some (.type "int")
  | .str _ => some (.type "str")
  | .tup _ => some (.type "tuple")
  | .lst _ => some (.type "list")
  | .dct _ _ => some (.type "dict")
  | .loc _ => none
  | .ins c _ _ => (Γ.cA c).map .ref
section
variable {Γ : Glo} {fl : List Str} {G : Act} {Hm H : Hp} {i : List Addr} {r : List Sl} {m : List D} {σ : St} {Q : VK}
/-- a value's type, as isinstance asks; or it is a dict -/
def TyM (K : PySem.W.Frag) (H : Hp) (x : V) (t : Value) : Prop := TyX K H x t ∨ (t = .type "dict" ∧ ∃ a L, x = .ref a ∧ H a = some (dctO a L))
theorem SqL.ty {K : PySem.W.Frag} {a : Addr} {xs : List V} (h : SqL K H a xs) : TyX K H (.ref a) (.type "list") := by
  rcases h with (h | ⟨o, h⟩) | ⟨o, its, n, h1, h2, _⟩
  · exact .base (.lst h)
  · exact .base (.frz h)
  · exact .kList h1 h2
theorem SqT.ty {K : PySem.W.Frag} {a : Addr} {xs : List V} (h : SqT K H a xs) : TyX K H (.ref a) (.type "tuple") := by
  rcases h with (h | ⟨o, h⟩) | ⟨o, its, n, h1, h2, _⟩
  · exact .base (.tup h)
  · exact .fTuple h
  · exact .kTuple h1 h2
theorem BRep.ty (g : GOk Γ fl) (x : R Γ G Hm i r m σ H) {v : V} {d : D} (h : BRep Γ Hm i H v d) (nl : ∀ n, d ≠ .loc n) : ∃ t, tyD Γ d = some t ∧ TyM Γ.K H v t := by
  have ins : ∀ {a C dx : Addr} {fs : List (Str × V)} {c : Str}, H a = some (.ins C dx fs) → Γ.cA c = some C → TyM Γ.K H (.ref a) (.ref C) := fun {a C dx fs c} h1 h2 => by
    obtain ⟨p1, p2, p3, p4⟩ := g.isc c C h2
    exact .inl (.base (.ins h1 (g.cls c C h2) p1 p2 p3 p4))
  rcases h with h | ⟨a, o, rfl, ha, h⟩
  · cases h with
    | non => exact ⟨_, rfl, .inl (.base .non)⟩
    | bl b => exact ⟨_, rfl, .inl (.base (.bl b))⟩
    | int n => exact ⟨_, rfl, .inl (.base (.int n))⟩
    | str z => exact ⟨_, rfl, .inl (.base (.str z))⟩
    | tup h r => exact ⟨_, rfl, .inl (SqT.ty (SqT.le x.sub h))⟩
    | lst h r => exact ⟨_, rfl, .inl (SqL.ty (SqL.le x.sub h))⟩
    | dct h _ _ _ => exact ⟨_, rfl, .inr ⟨rfl, _, _, rfl, x.sub _ _ h⟩⟩
    | ins h c _ _ => exact ⟨_, by simp [tyD, c], ins (x.sub _ _ h) c⟩
    | loc h => exact absurd rfl (nl _)
  · cases h with
    | lst r => exact ⟨_, rfl, .inl (.base (.lst ha))⟩
    | dct r _ _ => exact ⟨_, rfl, .inr ⟨rfl, _, _, rfl, ha⟩⟩
    | ins c _ _ => exact ⟨_, by simp [tyD, c], ins ha c⟩
/-- isinstance, read -/
def rIsM (K : PySem.W.Frag) : List V → Hp → VK → Prop := fun xs H Q => ∃ (x c : V) (t u : Value) (b : Bool), xs = [x, c] ∧ ClsV c u ∧ TyM K H x t ∧ PySem.W.kitOne K t u = some b ∧ Q (.bl b) H
def rIsTM (K : PySem.W.Frag) : List V → Hp → VK → Prop := fun xs H Q => ∃ (x : V) (tp : Addr) (cs : List V) (t : Value) (us : List Value) (b : Bool), xs = [x, .ref tp] ∧ H tp = some (.tup cs) ∧ Paired ClsV cs us ∧ TyM K H x t ∧ PySem.W.kitAny K t us = some b ∧ Q (.bl b) H
theorem kit_M {X : Cx} {pins : List (Addr × Obj)} {s : Shared} {x : V} {u t : Value} (I : Inv X pins σ H s) (rx : RelV x u) (ty : TyM X.K H x t) : ∃ P : Heap → Prop, PySem.W.KitX X.K u t P ∧ P s.heap ∧ u ≠ .builtin "__main__.__loader__#opaque" := by
  rcases ty with ty | ⟨rfl, a, L, rfl, h⟩
  · exact kit_of I rx ty
  · cases (show u = Value.ref a from rx)
    obtain ⟨⟨_, o, es, ep, h1, h2, _⟩, _⟩ := I.hok a _ h
    exact ⟨_, PySem.W.kitx_dict, ⟨o, h1, h2.1⟩, fun z => nomatch z⟩
theorem cr_isM {X : Cx} : CallR X (.builtin "isinstance") (rIsM X.K) := by
  intro pins s σ H xs us Q I r h
  obtain ⟨x, c, t, u, b, rfl, k, ty, e, q⟩ := h
  obtain ⟨u1, u2, rfl, r1, r2⟩ := vals2 r
  have e2 := k.eq r2
  subst e2
  obtain ⟨P, Z, p, hx⟩ := kit_M I r1 ty
  exact PySem.W.kia_one Z I.kIn p e hx fun tk => ⟨.bl b, H, I.tok tk, rfl, q⟩
theorem cr_isTM {X : Cx} : CallR X (.builtin "isinstance") (rIsTM X.K) := by
  intro pins s σ H xs us Q I r h
  obtain ⟨x, tp, cs, t, ws, b, rfl, hT, k, ty, e, q⟩ := h
  obtain ⟨u1, u2, rfl, r1, r2⟩ := vals2 r
  cases (show u2 = Value.ref tp from r2)
  obtain ⟨P, Z, p, hx⟩ := kit_M I r1 ty
  obtain ⟨_, its, rv, ⟨oc, od, dt, sl⟩, h1, h2, n, h3⟩ := (show ObjOk X.prog X.w H s.heap tp (.tup cs) from I.hok tp _ hT)
  have e3 := ClsV.all k rv
  subst e3
  simp only at h2 h3
  subst h2 h3
  exact PySem.W.kia_tup Z I.kIn p h1 e hx fun tk => ⟨.bl b, H, I.tok tk, rfl, q⟩
/-- a class's name: a built-in type, an own class -/
def builtT : List Str := ["str", "int", "bool", "list", "tuple", "dict"]
def clsV (Γ : Glo) (t : Str) (v : V) (u : Value) : Prop := (∃ n : String, t = Str.ofString n ∧ n ∈ (["str", "int", "bool", "list", "tuple", "dict"] : List String) ∧ v = .ty n ∧ u = .type n) ∨ ∃ C, Γ.cA t = some C ∧ v = .ref C ∧ u = .ref C ∧ t ∉ builtT
theorem kit_base {K : PySem.W.Frag} : ∀ a ∈ (["NoneType", "bool", "int", "str", "tuple", "list", "dict"] : List String), ∀ n ∈ (["str", "int", "bool", "list", "tuple", "dict"] : List String), PySem.W.kitOne K (.type a) (.type n) = some (a == n || (a == "bool" && n == "int")) := by
  intro a ha n hn
  simp only [List.mem_cons, List.not_mem_nil, or_false] at ha hn
  rcases ha with rfl | rfl | rfl | rfl | rfl | rfl | rfl <;> rcases hn with rfl | rfl | rfl | rfl | rfl | rfl <;> kernel_rfl
end
end Mi
end
section
set_option maxRecDepth 100000
/-! Mi: isinstance, attributes, as expressions. -/
namespace Mi
open PySem L2
section
variable {Γ : Glo} {fl : List Str} {G : Act} {Hm H : Hp} {i : List Addr} {r : List Sl} {m : List D} {σ : St} {Q : VK}
/-- a class as it is written: a built-in type, or a class of the text -/
structure ClsN (Γ : Glo) (t : Str) (v : V) (u : Value) : Prop where
  is : (∃ n : String, t = Str.ofString n ∧ n ∈ (["str", "int", "bool", "list", "tuple", "dict"] : List String) ∧ v = .ty n ∧ u = .type n) ∨ ∃ C, Γ.cA t = some C ∧ v = .ref C ∧ u = .ref C ∧ ∀ n ∈ (["str", "int", "bool", "list", "tuple", "dict"] : List String), t ≠ Str.ofString n
theorem ClsN.v {t : Str} {v : V} {u : Value} (h : ClsN Γ t v u) : ClsV v u := by
  rcases h.is with ⟨n, _, _, rfl, rfl⟩ | ⟨C, _, rfl, rfl, _⟩
  · exact .ty n
  · exact .own C
theorem isType_own {d : D} {t : Str} (h : ∀ n ∈ (["str", "int", "bool", "list", "tuple", "dict"] : List String), t ≠ Str.ofString n) (hl : isLoc d = false) : isType d t = (match d with | .ins c _ _ => some (decide (c = t)) | _ => some false) := by
  unfold isType
  rw [hl, if_neg Bool.false_ne_true, if_neg (h "str" (by simp)), if_neg (h "int" (by simp)), if_neg (h "bool" (by simp)), if_neg (h "list" (by simp)), if_neg (h "tuple" (by simp)), if_neg (h "dict" (by simp))]
  cases d <;> rfl
theorem kit_isType (g : GOk Γ fl) {t : Str} {v : V} {u ty : Value} {d : D} {b : Bool} (h : ClsN Γ t v u) (hd : tyD Γ d = some ty) (e : isType d t = some b) : PySem.W.kitOne Γ.K ty u = some b := by
  have hl : isLoc d = false := by
    cases d <;> first | rfl | (cases (show (none : Option Value) = some ty from hd))
  rcases h.is with ⟨n, rfl, hn, rfl, rfl⟩ | ⟨C, hC, rfl, rfl, hne⟩
  · have base : ∀ a ∈ (["NoneType", "bool", "int", "str", "tuple", "list", "dict"] : List String), PySem.W.kitOne Γ.K (.type a) (.type n) = some (a == n || (a == "bool" && n == "int")) := fun a ha => kit_base a ha n hn
    simp only [List.mem_cons, List.not_mem_nil, or_false] at hn
    cases d with
    | ins c ns vs =>
      unfold tyD at hd
      obtain ⟨C, hC, rfl⟩ := map_some hd
      rw [(g.k1 c C hC n (by simp; rcases hn with rfl | rfl | rfl | rfl | rfl | rfl <;> simp)).2]
      rcases hn with rfl | rfl | rfl | rfl | rfl | rfl <;> exact e
    | loc => cases hl
    | _ =>
      unfold tyD at hd
      injection hd with hd
      subst hd
      rw [base _ (by simp)]
      rcases hn with rfl | rfl | rfl | rfl | rfl | rfl <;> exact e
  · rw [isType_own hne hl] at e
    cases d with
    | ins c ns vs =>
      unfold tyD at hd
      obtain ⟨C', hC', rfl⟩ := map_some hd
      rw [g.k2 c C' t C hC' hC]
      exact e
    | loc => cases hl
    | _ =>
      unfold tyD at hd
      injection hd with hd
      subst hd
      cases e
      exact (g.k1 t C hC _ (by simp)).1
theorem kit_isTypes (g : GOk Γ fl) {ty : Value} {d : D} (hd : tyD Γ d = some ty) : ∀ {ts : List Str} {us : List Value} {b : Bool}, Paired (fun t u => ∃ v, ClsN Γ t v u) ts us → isTypes d ts = some b → PySem.W.kitAny Γ.K ty us = some b
  | [], _, b, .nil, e => e
  | t :: ts, _, b, .cons h hs, e => by
    obtain ⟨v, h⟩ := h
    unfold isTypes at e
    cases e1 : isType d t with
    | none => rw [e1] at e; cases e
    | some x =>
      cases e2 : isTypes d ts with
      | none => rw [e1, e2] at e; cases e
      | some y =>
        rw [e1, e2] at e
        cases e
        unfold PySem.W.kitAny
        rw [kit_isType g h hd e1]
        cases x with
        | true => rfl
        | false => exact kit_isTypes g hd hs e2
theorem not_loc {d : D} {t : Str} {b : Bool} (h : isType d t = some b) : ∀ n, d ≠ .loc n := fun n z => by
  subst z
  unfold isType at h
  rw [if_pos (show isLoc (.loc n) = true from rfl)] at h
  cases h
end
section
variable {X : Cx} {Γ : Glo} {fl : List Str} {KE : KEt} {C : Nat → List D → List D → CO} {ini : Str → Option Nat} {pos p q : Pos} {a : Expr} {ma : A}
theorem tm_is1 (g : GOk Γ fl) (hK : X.K = Γ.K) {t : Str} {v : V} {u : Value} (h : ClsN Γ t v u) : ∀ σ H Q, TM Γ KE (evE C ini (.isi false ma [t])) σ H Q → tCB (rIsM X.K) (tCons (TO Γ KE (evA C ini ma)) (tCons (tC v) tNil)) σ H Q := by
  rintro σ H Q ⟨G, Hm, i, r, m, x, hh⟩
  rw [evE] at hh
  refine ⟨G, Hm, i, r, m, x, hh.bind.imp fun o r1 m1 Hm1 i1 H1 _ x1 h1 w rw' => ?_⟩
  show ∃ x c t u b, [w, v] = [x, c] ∧ _
  cases e : opD r1 o with
  | none => rw [e] at h1; exact h1.elim
  | some d =>
    rw [e] at h1
    dsimp only at h1
    cases e1 : isTypes d [t] with
    | none => rw [e1] at h1; exact h1.elim
    | some b =>
      rw [e1] at h1
      have e2 : isType d t = some b := by
        unfold isTypes at e1
        cases e3 : isType d t with
        | none => rw [e3] at e1; cases e1
        | some y => rw [e3] at e1; simp [isTypes] at e1; rw [e1]
      obtain ⟨ty, f1, f2⟩ := BRep.ty g x1 (rw'.look x1 e) (not_loc e2)
      refine ⟨w, v, ty, u, b, rfl, h.v, by rw [hK]; exact f2, by rw [hK]; exact kit_isType g h f1 e2, ?_⟩
      exact h1.here x1 _ (.bl b)
/-- the classes' tuple -/
theorem tm_isT (g : GOk Γ fl) (hK : X.K = Γ.K) {ts : List Str} {tc : L2.TA} {cs : List V} {us : List Value} (h : Paired (fun t u => ∃ v, ClsN Γ t v u) ts us) (hv : Paired ClsV cs us) (hl : cs.length ≤ 1000) (hne : ts ≠ []) (htc : ∀ σ H Q, Q cs H → tc σ H Q) : ∀ σ H Q, TM Γ KE (evE C ini (.isi true ma ts)) σ H Q →
    tCB (rIsTM X.K) (tCons (TO Γ KE (evA C ini ma)) (tCons (tTup tc) tNil)) σ H Q := by
  rintro σ H Q ⟨G, Hm, i, r, m, x, hh⟩
  rw [evE] at hh
  refine ⟨G, Hm, i, r, m, x, hh.bind.imp fun o r1 m1 Hm1 i1 H1 _ x1 h1 w rw' => ?_⟩
  refine htc σ H1 _ ⟨le_line (by omega), fun tp htp => ?_⟩
  show ∃ x tp' cs' t us' b, [w, V.ref tp] = [x, V.ref tp'] ∧ _
  cases e : opD r1 o with
  | none => rw [e] at h1; exact h1.elim
  | some d =>
    rw [e] at h1
    dsimp only at h1
    cases e1 : isTypes d ts with
    | none => rw [e1] at h1; exact h1.elim
    | some b =>
      rw [e1] at h1
      have nl : ∀ n, d ≠ .loc n := by
        cases ts with
        | nil => exact absurd rfl hne
        | cons t ts =>
          unfold isTypes at e1
          cases e3 : isType d t with
          | none => rw [e3] at e1; cases e1
          | some y => exact not_loc e3
      have xl := x1.loose htp (.tup cs)
      have rl := (rw'.look x1 e)
      have rl' : BRep Γ Hm1 i1 (upd H1 tp (.tup cs)) w d := by
        rcases rl with rl | ⟨a, ob, h1, h2, h3⟩
        · exact .inl rl
        · exact .inr ⟨a, ob, h1, le_upd htp _ _ h2, h3⟩
      obtain ⟨ty, f1, f2⟩ := BRep.ty g xl rl' nl
      refine ⟨w, tp, cs, ty, us, b, rfl, upd_same, hv, by rw [hK]; exact f2, by rw [hK]; exact kit_isTypes g f1 h e1, ?_⟩
      exact h1 _ _ _ (Go.refl _ _) xl _ (.bl b)
/-- a.f -/
theorem tm_att (g : GOk Γ fl) (hK : X.K = Γ.K) {f : Str} (hf : f ∈ fl) : ∀ σ H Q, TM Γ KE (evE C ini (.att ma f)) σ H Q → tFld X.K (TO Γ KE (evA C ini ma)) f σ H Q := by
  rintro σ H Q ⟨G, Hm, i, r, m, x, hh⟩
  rw [evE] at hh
  refine ⟨G, Hm, i, r, m, x, hh.bind.imp fun o r1 m1 Hm1 i1 H1 _ x1 h1 w rw' => ?_⟩
  cases e0 : opD r1 o with
  | none => rw [e0] at h1; exact h1.elim
  | some d0 =>
   rw [e0] at h1
   simp only [Option.bind] at h1
   cases e : deref m1 d0 with
   | none => rw [e] at h1; exact h1.elim
   | some d =>
    rw [e] at h1
    cases d <;> first | exact h1.elim | skip
    rename_i c ns vs
    dsimp only at h1
    cases e1 : (ns.zip vs).lookup f with
    | none => rw [e1] at h1; exact h1.elim
    | some z =>
      rw [e1] at h1
      have key : ∀ {fs : List (Str × V)} {ns : List Str} {vs : List D}, fs.map (·.1) = ns → Reps Γ Hm1 i1 (fs.map (·.2)) vs → (ns.zip vs).lookup f = some z → ∃ y, fs.lookup f = some y ∧ Rep Γ Hm1 i1 y z := by
        intro fs
        induction fs with
        | nil => intro ns vs h1 h2 h3; subst h1; simp at h3
        | cons p fs ih =>
          intro ns vs h1 h2 h3
          subst h1
          cases vs with
          | nil => cases h2
          | cons d ds =>
            cases h2 with
            | cons q1 q2 =>
              obtain ⟨pn, pv⟩ := p
              simp only [List.map_cons, List.zip_cons_cons, List.lookup_cons] at h3 ⊢
              cases hb : f == pn with
              | true => rw [hb] at h3; cases h3; exact ⟨pv, rfl, q1⟩
              | false => rw [hb] at h3; exact ih rfl q2 h3
      rcases (rw'.look x1 e0).deref x1 e with rl | ⟨a, ob, rfl, h2, h3⟩
      · cases rl with
        | ins k1 k2 k3 k4 =>
          obtain ⟨y, y1, y2⟩ := key k3 k4 e1
          exact ⟨_, _, _, _, y, rfl, x1.sub _ _ k1, by rw [hK]; exact g.cls _ _ k2, by rw [hK]; exact g.noat _ _ k2 f hf, y1, h1.here x1 y y2⟩
      · cases h3 with
        | ins k2 k3 k4 =>
          obtain ⟨y, y1, y2⟩ := key k3 k4 e1
          exact ⟨_, _, _, _, y, rfl, h2, by rw [hK]; exact g.cls _ _ k2, by rw [hK]; exact g.noat _ _ k2 f hf, y1, h1.here x1 y y2⟩
end
end Mi
end
section
set_option maxRecDepth 100000
/-! Mi: what changes an owned list, a location. -/
namespace Mi
open PySem L2
section
variable {X : Cx} {Γ : Glo} {KE : KEt} {kd : Kd} {C : Nat → List D → List D → CO} {ini : Str → Option Nat} {W : Nat} {pos apos cpos p : Pos} {n : Nat} {nm : Str} {e : Expr} {me : E}
theorem isLst {r : List Sl} (h : isLstO r n = true) : ∃ xs, r[n]? = some (.o (.lst xs)) := by
  unfold isLstO at h
  split at h
  · exact ⟨_, by assumption⟩
  · cases h
theorem R.ownL {G : Act} {Hm H : Hp} {i : List Addr} {r : List Sl} {m : List D} {σ : St} (x : R Γ G Hm i r m σ H) {xs : List D} (h : r[n]? = some (.o (.lst xs))) : ∃ a vs, σ[n]? = some (some (.ref a)) ∧ H a = some (.lst vs) ∧ Reps Γ Hm i vs xs := by
  obtain ⟨a, o, h1, h2, _, _, _, h6⟩ := x.own n _ h
  cases h6 with
  | lst r => exact ⟨a, _, h1, h2, r⟩
theorem ty_lst {K : PySem.W.Frag} {H : Hp} {a : Addr} {vs : List V} (h : H a = some (.lst vs)) : tyV K "list" (.ref a) H := .inl ⟨rfl, vs, SqL.of h⟩
theorem slotO_eq {r : List Sl} {d : D} (h : slotO r n = some d) : r[n]? = some (.o d) := by
  unfold slotO at h
  split at h
  · cases h; assumption
  · cases h
theorem few1 {e : Expr} {cpos : Pos} {env : Env} (h : noStar e = true) : ((backTo cpos (starEach [e] env)).all (fun x => !x.1) && (backToKw cpos (keywordEach [] env)).all (fun x => x.1.isSome) && decide ([e].length + ([] : List Keyword).length + (if ([] : List Keyword).isEmpty then 0 else 1) < 30)) = true := by
  rw [star_cons h]; rfl
theorem pm1 {T id : String} {name : Str} {r : V → List V → Hp → VK → Prop} {to te : TE} (pa : PlainAttrs T) (slot : Slot T name id) (hty : typeOf (.builtin id) = pure (.type "method_descriptor")) (hm : MtR X id r) (ho : PE X (.Name nm p) to) (he : PE X e te) (hs : noStar e = true) (hl : (apos.endLine == cpos.line) = true) :
    PE X (.Call (.Attribute (.Name nm p) name apos) [e] [] cpos) (tBM X.K T r to (tCons te tNil)) :=
  pe_bm pa slot hty hm ho (pa_cons he pa_nil (star_cons hs)) rfl (few1 hs) hl (star_cons hs) rfl
theorem pm0 {T id : String} {name : Str} {r : V → List V → Hp → VK → Prop} {to : TE} (pa : PlainAttrs T) (slot : Slot T name id) (hty : typeOf (.builtin id) = pure (.type "method_descriptor")) (hm : MtR X id r) (ho : PE X (.Name nm p) to) (hl : (apos.endLine == cpos.line) = true) :
    PE X (.Call (.Attribute (.Name nm p) name apos) [] [] cpos) (tBM0 X.K T r to) := pe_bm0 pa slot hty hm ho rfl hl
variable (hN : X.N[n]? = some nm) (hv : Vis X.env.scope nm) (hd : (nm == ("__debug__" : Str)) = false) (hc : (nm == ("__classdict__" : Str)) = false)
include hN hv hd hc
/-- x.pop(e) -/
theorem e_popA (he : PE X e (TM Γ KE (evE C ini me))) (hs : noStar e = true) (hl : (apos.endLine == cpos.line) = true) : PE X (.Call (.Attribute (.Name nm p) "pop" apos) [e] [] cpos) (TM Γ KE (evE C ini (.popA n me))) := by
  refine pe_weak (pm1 PySem.F.plainAttrs_list PySem.F.slot_list_pop PySem.F.type_list_pop mt_popAt (pe_var hN hv hd hc) he hs hl) ?_
  rintro σ H Q ⟨G, Hm, i, r, m, x, h⟩
  rw [evE] at h
  by_cases hL : isLstO r n = true
  · rw [if_pos hL] at h
    obtain ⟨xs, hx⟩ := isLst hL
    obtain ⟨a, vs, h1, h2, _⟩ := x.ownL hx
    refine ⟨_, h1, ty_lst h2, G, Hm, i, r, m, x, h.bind.imp fun d r1 m1 Hm1 i1 H1 _ x1 k v rv => ?_⟩
    cases q : slotO r1 n with
    | none => rw [q] at k; exact k.elim
    | some z =>
      rw [q] at k
      cases z <;> first | exact k.elim | skip
      cases d <;> first | exact k.elim | skip
      rename_i ys j
      dsimp only at k
      by_cases hj : 0 ≤ j ∧ j < 1000000
      · rw [if_pos hj] at k
        cases e1 : ys[j.toNat]? with
        | none => rw [e1] at k; exact k.elim
        | some d =>
          rw [e1] at k
          cases rv
          obtain ⟨a', vs', h3, h4, h5⟩ := x1.ownL (slotO_eq q)
          rw [h1] at h3; cases h3
          obtain ⟨y, e2, e3⟩ := h5.get' e1
          have hlt := getsome e2
          have er : Reps Γ Hm1 i1 (vs'.eraseIdx j.toNat) (ys.eraseIdx j.toNat) := by
            rw [List.eraseIdx_eq_take_drop_succ, List.eraseIdx_eq_take_drop_succ]
            exact (reps_take h5 _).app (reps_drop h5 _)
          refine ⟨a, vs', j, j.toNat, y, rfl, rfl, h4, by omega, by omega, PySem.StrLaws.seqIndex_nonneg hj.1 (by omega), e2, ?_⟩
          exact k _ _ _ (Go.refl _ _) (x1.mutO (slotO_eq q) h1 (.lst er)) y e3
      · rw [if_neg hj] at k; exact k.elim
  · rw [if_neg hL] at h; exact h.elim
/-- x.pop() -/
theorem e_pop (hl : (apos.endLine == cpos.line) = true) : PE X (.Call (.Attribute (.Name nm p) "pop" apos) [] [] cpos) (TM Γ KE (evE C ini (.pop n))) := by
  refine pe_weak (pm0 PySem.F.plainAttrs_list PySem.F.slot_list_pop PySem.F.type_list_pop mt_pop (pe_var hN hv hd hc) hl) ?_
  rintro σ H Q ⟨G, Hm, i, r, m, x, h⟩
  rw [evE] at h
  cases q : slotO r n with
  | none => rw [q] at h; exact h.elim
  | some z =>
    rw [q] at h
    cases z <;> first | exact h.elim | skip
    rename_i ys
    dsimp only at h
    cases e1 : ys.getLast? with
    | none => rw [e1] at h; exact h.elim
    | some d =>
      rw [e1] at h
      obtain ⟨a, vs, h1, h2, h3⟩ := x.ownL (slotO_eq q)
      have e2 : ys[ys.length - 1]? = some d := by rw [← List.getLast?_eq_getElem?]; exact e1
      rw [← h3.length] at e2
      obtain ⟨y, e3, e4⟩ := h3.get' e2
      refine ⟨_, h1, ty_lst h2, a, vs, y, rfl, rfl, h2, e3, ?_⟩
      have er : Reps Γ Hm i vs.dropLast ys.dropLast := by
        rw [List.dropLast_eq_take, List.dropLast_eq_take, h3.length]; exact reps_take h3 _
      exact h _ _ _ (Go.refl _ _) (x.mutO (slotO_eq q) h1 (.lst er)) y e4
/-- x.append(e) -/
theorem s_app (he : PE X e (TM Γ KE (evE C ini me))) (hs : noStar e = true) (hl : (apos.endLine == cpos.line) = true) : PS X (.Expr (.Call (.Attribute (.Name nm p) "append" apos) [e] [] cpos) pos) (TSm Γ KE kd (evS C ini W (.app n me))) := by
  refine ps_weak (ps_expr (pm1 PySem.F.plainAttrs_list PySem.F.slot_list_append PySem.F.type_list_append mt_append (pe_var hN hv hd hc) he hs hl) (swaps_no rfl)) ?_
  rintro D σ H ⟨G, Hm, i, r, m, x, h⟩
  rw [evS] at h
  by_cases hL : isLstO r n = true
  · rw [if_pos hL] at h
    obtain ⟨xs, hx⟩ := isLst hL
    obtain ⟨a, vs, h1, h2, _⟩ := x.ownL hx
    refine ⟨_, h1, ty_lst h2, G, Hm, i, r, m, x, (h.bind (σ := σ)).imp fun d r1 m1 Hm1 i1 H1 _ x1 k v rv => ?_⟩
    cases q : slotO r1 n with
    | none => rw [q] at k; exact k.elim
    | some z =>
      rw [q] at k
      cases z <;> first | exact k.elim | skip
      rename_i ys
      dsimp only at k
      by_cases hj : ys.length < 1000000
      · rw [if_pos hj] at k
        obtain ⟨a', vs', h3, h4, h5⟩ := x1.ownL (slotO_eq q)
        rw [h1] at h3; cases h3
        have hz : (1000000 : Nat) ≤ sizeLine := le_line (Nat.le_refl _)
        refine ⟨a, vs', v, rfl, rfl, h4, by rw [h5.length]; omega, ?_⟩
        exact k.nx (x1.mutO (slotO_eq q) h1 (.lst (h5.app (.cons rv .nil))))
      · rw [if_neg hj] at k; exact k.elim
  · rw [if_neg hL] at h; exact h.elim
/-- x.extend(e), e a new list -/
theorem s_ext (he : PE X e (TN Γ KE (evE C ini me))) (hs : noStar e = true) (hl : (apos.endLine == cpos.line) = true) : PS X (.Expr (.Call (.Attribute (.Name nm p) "extend" apos) [e] [] cpos) pos) (TSm Γ KE kd (evS C ini W (.ext n me))) := by
  refine ps_weak (ps_expr (pm1 PySem.F.plainAttrs_list PySem.F.slot_list_extend PySem.F.type_list_extend mt_extend (pe_var hN hv hd hc) he hs hl) (swaps_no rfl)) ?_
  rintro D σ H ⟨G, Hm, i, r, m, x, h⟩
  rw [evS] at h
  by_cases hL : isLstO r n = true
  · rw [if_pos hL] at h
    obtain ⟨xs, hx⟩ := isLst hL
    obtain ⟨a, vs, h1, h2, _⟩ := x.ownL hx
    refine ⟨_, h1, ty_lst h2, G, Hm, i, r, m, x, ?_⟩
    cases q0 : evE C ini me r m with
    | ok d r1 m1 =>
      rw [q0] at h
      simp only [O.bind] at h
      cases q : slotO r1 n with
      | none => rw [q] at h; exact h.elim
      | some z =>
        rw [q] at h
        cases z <;> first | exact h.elim | skip
        cases d <;> first | exact h.elim | skip
        rename_i ys zs
        dsimp only at h
        by_cases hj : ys.length + zs.length < 1000000
        · rw [if_pos hj] at h
          intro Hm1 i1 H1 g1 x1 b ob nw
          have k := AfterS.later g1 h
          obtain ⟨a', vs', h3, h4, h5⟩ := x1.ownL (slotO_eq q)
          rw [h1] at h3; cases h3
          obtain ⟨n1, n2, n3, n4, n5, n6⟩ := nw
          cases n5 with
          | lst g =>
            have hz : (1000000 : Nat) ≤ sizeLine := le_line (Nat.le_refl _)
            refine ⟨a, b, vs', _, rfl, rfl, h4, n1, by rw [h5.length, g.length]; omega, ?_⟩
            exact k.nx (x1.mutO (slotO_eq q) h1 (.lst (h5.app g)))
        · rw [if_neg hj] at h; exact h.elim
    | ex _ _ _ => rw [q0] at h; exact h
    | bad => rw [q0] at h; exact h.elim
  · rw [if_neg hL] at h; exact h.elim
/-- x.extend(y), y an owned list -/
theorem s_extB {k : Nat} {nm2 : Str} {p2 : Pos} (hN2 : X.N[k]? = some nm2) (hv2 : Vis X.env.scope nm2) (hd2 : (nm2 == ("__debug__" : Str)) = false) (hc2 : (nm2 == ("__classdict__" : Str)) = false) (hl : (apos.endLine == cpos.line) = true) :
    PS X (.Expr (.Call (.Attribute (.Name nm p) "extend" apos) [.Name nm2 p2] [] cpos) pos) (TSm Γ KE kd (evS C ini W (.extB n k))) := by
  refine ps_weak (ps_expr (pm1 PySem.F.plainAttrs_list PySem.F.slot_list_extend PySem.F.type_list_extend mt_extend (pe_var hN hv hd hc) (pe_var hN2 hv2 hd2 hc2) rfl hl) (swaps_no rfl)) ?_
  rintro D σ H ⟨G, Hm, i, r, m, x, h⟩
  rw [evS] at h
  cases q : slotO r n with
  | none => rw [q] at h; exact h.elim
  | some z =>
    cases q2 : slotO r k with
    | none => rw [q, q2] at h; cases z <;> exact h.elim
    | some z2 =>
      rw [q, q2] at h
      cases z <;> first | exact h.elim | skip
      cases z2 <;> first | exact h.elim | skip
      rename_i ys zs
      dsimp only at h
      by_cases hj : ys.length + zs.length < 1000000
      · rw [if_pos hj] at h
        obtain ⟨a, vs, h1, h2, h3⟩ := x.ownL (slotO_eq q)
        obtain ⟨b, us, g1, g2, g3⟩ := x.ownL (slotO_eq q2)
        have hz : (1000000 : Nat) ≤ sizeLine := le_line (Nat.le_refl _)
        refine ⟨_, h1, ty_lst h2, _, g1, a, b, vs, us, rfl, rfl, h2, g2, by rw [h3.length, g3.length]; omega, ?_⟩
        exact h.nx (x.mutO (slotO_eq q) h1 (.lst (h3.app g3)))
      · rw [if_neg hj] at h; exact h.elim
/-- x.reverse(), x.clear() -/
theorem s_revs (hl : (apos.endLine == cpos.line) = true) : PS X (.Expr (.Call (.Attribute (.Name nm p) "reverse" apos) [] [] cpos) pos) (TSm Γ KE kd (evS C ini W (.revs n))) := by
  refine ps_weak (ps_expr (pm0 PySem.F.plainAttrs_list PySem.F.slot_list_reverse PySem.F.type_list_reverse mt_reverse (pe_var hN hv hd hc) hl) (swaps_no rfl)) ?_
  rintro D σ H ⟨G, Hm, i, r, m, x, h⟩
  rw [evS] at h
  cases q : slotO r n with
  | none => rw [q] at h; exact h.elim
  | some z =>
    rw [q] at h
    cases z <;> first | exact h.elim | skip
    rename_i ys
    dsimp only at h
    obtain ⟨a, vs, h1, h2, h3⟩ := x.ownL (slotO_eq q)
    exact ⟨_, h1, ty_lst h2, a, vs, rfl, rfl, h2, h.nx (x.mutO (slotO_eq q) h1 (.lst (reps_rev h3)))⟩
theorem s_clr (hl : (apos.endLine == cpos.line) = true) : PS X (.Expr (.Call (.Attribute (.Name nm p) "clear" apos) [] [] cpos) pos) (TSm Γ KE kd (evS C ini W (.clr n))) := by
  refine ps_weak (ps_expr (pm0 PySem.F.plainAttrs_list PySem.F.slot_list_clear PySem.F.type_list_clear mt_clear (pe_var hN hv hd hc) hl) (swaps_no rfl)) ?_
  rintro D σ H ⟨G, Hm, i, r, m, x, h⟩
  rw [evS] at h
  cases q : slotO r n with
  | none => rw [q] at h; exact h.elim
  | some z =>
    rw [q] at h
    cases z <;> first | exact h.elim | skip
    rename_i ys
    dsimp only at h
    obtain ⟨a, vs, h1, h2, h3⟩ := x.ownL (slotO_eq q)
    exact ⟨_, h1, ty_lst h2, a, vs, rfl, rfl, h2, h.nx (x.mutO (slotO_eq q) h1 (.lst .nil))⟩
/-- x[k] = e, x an owned list -/
theorem s_setK {tpos : Pos} {ek : Expr} {mk : E} (he : PE X e (TM Γ KE (evE C ini me))) (hk : PE X ek (TM Γ KE (evE C ini mk)))
    (ha : ∀ v, assign (.Subscript (.Name nm p) ek tpos) X.env v = (do
      let ov ← holding [v] (eval (.Name nm p) X.env)
      let iv ← holding [v, ov] (eval ek X.env)
      standAt tpos
      holding [v, ov, iv] (setItem ov iv v)
      release [v, ov, iv] [])) (hsw : swapsWithSole [.Subscript (.Name nm p) ek tpos] e pos.line X.env = pure false) (hst : swappedStores [.Subscript (.Name nm p) ek tpos] e X.env = pure none) :
    PS X (.Assign [.Subscript (.Name nm p) ek tpos] e pos) (TSm Γ KE kd (evS C ini W (.setK n mk me))) := by
  refine ps_weak (ps_asg he (pg_sub (pe_var hN hv hd hc) hk set_list ha) hsw hst rfl) ?_
  rintro D σ H ⟨G, Hm, i, r, m, x, h⟩
  rw [evS] at h
  refine ⟨G, Hm, i, r, m, x, (h.bind (σ := σ)).imp fun d r1 m1 Hm1 i1 H1 _ x1 k v rv => ?_⟩
  cases q0 : isLstO r1 n with
  | false => rw [q0] at k; exact k.elim
  | true =>
    rw [q0, if_pos rfl] at k
    obtain ⟨xs, hx⟩ := isLst q0
    obtain ⟨a, vs, h1, h2, _⟩ := x1.ownL hx
    refine ⟨_, h1, G, Hm1, i1, r1, m1, x1, (AfterS.bind (σ := σ) k).imp fun d2 r2 m2 Hm2 i2 H2 g2 x2 k2 v2 rv2 => ?_⟩
    cases q3 : slotO r2 n with
    | none => rw [q3] at k2; cases d2 <;> exact k2.elim
    | some y =>
      rw [q3] at k2
      cases y <;> first | exact k2.elim | skip
      cases d2 <;> first | exact k2.elim | skip
      rename_i ys j
      dsimp only at k2
      by_cases hj : 0 ≤ j ∧ j < ys.length ∧ j < 1000000
      · rw [if_pos hj] at k2
        cases rv2
        obtain ⟨a', us, h3, e2, e4⟩ := x2.ownL (slotO_eq q3)
        rw [h1] at h3; cases h3
        have hlt : j.toNat < ys.length := by omega
        refine ⟨a, us, j, j.toNat, rfl, rfl, e2, ?_, ?_⟩
        · unfold ixN
          rw [if_pos hj.1, if_pos (by rw [e4.length]; exact hj.2.1)]
        · have er : Reps Γ Hm2 i2 (us.set j.toNat v) (ys.set j.toNat d) := by
            rw [List.set_eq_take_append_cons_drop, List.set_eq_take_append_cons_drop, if_pos hlt, if_pos (by rw [e4.length]; exact hlt)]
            exact (reps_take e4 _).app (.cons (rv.go g2) (reps_drop e4 _))
          exact k2.nx (x2.mutO (slotO_eq q3) h1 (.lst er))
      · rw [if_neg hj] at k2; exact k2.elim
theorem s_setL {tpos : Pos} {ek : Expr} {mk : E} (he : PE X e (TM Γ KE (evE C ini me))) (hk : PE X ek (TM Γ KE (evE C ini mk)))
    (ha : ∀ v, assign (.Subscript (.Name nm p) ek tpos) X.env v = (do
      let ov ← holding [v] (eval (.Name nm p) X.env)
      let iv ← holding [v, ov] (eval ek X.env)
      standAt tpos
      holding [v, ov, iv] (setItem ov iv v)
      release [v, ov, iv] [])) (hsw : swapsWithSole [.Subscript (.Name nm p) ek tpos] e pos.line X.env = pure false) (hst : swappedStores [.Subscript (.Name nm p) ek tpos] e X.env = pure none) :
    PS X (.Assign [.Subscript (.Name nm p) ek tpos] e pos) (TSm Γ KE kd (evS C ini W (.setL n mk me))) := by
  refine ps_weak (ps_asg he (pg_sub (pe_var hN hv hd hc) hk set_list ha) hsw hst rfl) ?_
  rintro D σ H ⟨G, Hm, i, r, m, x, h⟩
  rw [evS] at h
  refine ⟨G, Hm, i, r, m, x, (h.bind (σ := σ)).imp fun d r1 m1 Hm1 i1 H1 _ x1 k v rv => ?_⟩
  cases q : slotV r1 n with
  | none => rw [q] at k; exact k.elim
  | some z =>
    rw [q] at k
    cases z <;> first | exact k.elim | skip
    rename_i l
    have hz : r1[n]? = some (.v (.loc l)) := by
      unfold slotV at q
      split at q
      · cases q; assumption
      · cases q
    obtain ⟨w, h1, h2⟩ := x1.val n _ hz
    cases h2 with
    | loc h2 =>
      rename_i a
      refine ⟨_, h1, G, Hm1, i1, r1, m1, x1, (AfterS.bind (σ := σ) k).imp fun d2 r2 m2 Hm2 i2 H2 g2 x2 k2 v2 rv2 => ?_⟩
      cases q3 : m2[l]? with
      | none => rw [q3] at k2; cases d2 <;> exact k2.elim
      | some y =>
        rw [q3] at k2
        cases d2 <;> first | exact k2.elim | skip
        cases y <;> first | exact k2.elim | skip
        rename_i j ys
        dsimp only at k2
        by_cases hj : 0 ≤ j ∧ j < ys.length ∧ j < 1000000
        · rw [if_pos hj] at k2
          cases rv2
          obtain ⟨b, o, e1, e2, _, e4⟩ := x2.loc l _ q3
          have e1' := ix_pre g2.pre h2
          rw [e1'] at e1; cases e1
          cases e4 with
          | lst e4 =>
            rename_i us
            have hlt : j.toNat < ys.length := by omega
            refine ⟨a, us, j, j.toNat, rfl, rfl, e2, ?_, ?_⟩
            · unfold ixN
              rw [if_pos hj.1, if_pos (by rw [e4.length]; exact hj.2.1)]
            · have er : Reps Γ Hm2 i2 (us.set j.toNat v) (ys.set j.toNat d) := by
                rw [List.set_eq_take_append_cons_drop, List.set_eq_take_append_cons_drop, if_pos hlt, if_pos (by rw [e4.length]; exact hlt)]
                exact (reps_take e4 _).app (.cons (rv.go g2) (reps_drop e4 _))
              exact k2.nx (x2.mutL q3 e1' (.lst er))
        · rw [if_neg hj] at k2; exact k2.elim
end
end Mi
end
section
set_option maxRecDepth 100000
/-! Mi: the other statements. -/
namespace Mi
open PySem L2
section
variable {X : Cx} {Γ : Glo} {fl : List Str} {KE : KEt} {kd : Kd} {C : Nat → List D → List D → CO} {ini : Str → Option Nat} {W : Nat} {pos p : Pos} {n : Nat} {nm : Str} {e : Expr} {me : E}
/-- a, b = e -/
theorem s_setT {tg : Expr} {t : T} (he : PE X e (TM Γ KE (evE C ini me))) (hg : PG X tg (TGm Γ t)) (hs : swapsWithSole [tg] e pos.line X.env = pure false) (hw : swappedStores [tg] e X.env = pure none) (h1 : (assignEach [tg] X.env).map (·.2) = [assign tg X.env]) :
    PS X (.Assign [tg] e pos) (TSm Γ KE kd (evS C ini W (.setT t me))) := by
  refine ps_weak (ps_asg he hg hs hw h1) ?_
  rintro D σ H ⟨G, Hm, i, r, m, x, h⟩
  rw [evS] at h
  refine ⟨G, Hm, i, r, m, x, (h.bind (σ := σ)).imp fun d r1 m1 Hm1 i1 H1 _ x1 k v rv => ?_⟩
  cases q : assignT t d r1 with
  | none => rw [q] at k; exact k.elim
  | some r2 =>
    rw [q] at k
    exact ⟨G, Hm1, i1, r1, r2, m1, d, x1, rv, q, fun σ' x2 _ => k.nx x2⟩
/-- a, b = e, e' -/
theorem s_par {i j : Nat} {x y : Str} {a b : Expr} {ma mb : E} {px py pt : Pos} {kt k2 : Nat} {pt2 : Pos} (hc : X.calm = true) (hN : X.N.Nodup) (hi : X.N[i]? = some x) (hj : X.N[j]? = some y) (hij : i ≠ j) (hx : X.env.scope.names.lookup x = some .local) (hy : X.env.scope.names.lookup y = some .local)
    (ha : PE X a (TM Γ KE (evE C ini ma))) (hb : PE X b (TM Γ KE (evE C ini mb))) (sa : noStar a = true) (sb : noStar b = true)
    (hw : swappedStores [.Tuple [.Name x px, .Name y py] kt pt] (.Tuple [a, b] k2 pt2) X.env = pure (some [x, y])) (hs : swapsWithSole [.Tuple [.Name x px, .Name y py] kt pt] (.Tuple [a, b] k2 pt2) pos.line X.env = pure false) :
    PS X (.Assign [.Tuple [.Name x px, .Name y py] kt pt] (.Tuple [a, b] k2 pt2) pos) (TSm Γ KE kd (evS C ini W (.par i j ma mb))) := by
  refine ps_weak (ps_par hc hN hi hj hij hx hy (pa_cons ha (pa_cons hb pa_nil (star_cons sb)) (star_cons sa)) hw hs) ?_
  rintro D σ H ⟨G, Hm, ii, r, m, x, h⟩
  rw [evS] at h
  refine ⟨G, Hm, ii, r, m, x, (h.bind (σ := σ)).imp fun d r1 m1 Hm1 i1 H1 _ x1 k v rv => ?_⟩
  refine ⟨G, Hm1, i1, r1, m1, x1, (k.bind (σ := σ)).imp fun d2 r2 m2 Hm2 i2 H2 g2 x2 k2 v2 rv2 => ?_⟩
  by_cases hl : i < r2.length ∧ j < r2.length ∧ i ≠ j
  · rw [if_pos hl] at k2
    exact ⟨v, v2, rfl, k2.nx ((x2.setV (rv.go g2) hl.1).setV rv2 (by simpa using hl.2.1))⟩
  · rw [if_neg hl] at k2; exact k2.elim
/-- x op= e -/
theorem s_aug {op : Operator} {f : Bi} {g : Int → Int → Int} (hN : X.N.Nodup) (hi : X.N[n]? = some nm) (hx : Loc X.env.scope nm) (hf : X.fn nm = true ∨ X.env.scope.names.lookup nm = some .local) (he : PE X e (TM Γ KE (evE C ini me))) (ho : PIp X op (ipI g))
    (hb : ∀ m a b, biEval m f [.int a, .int b] = some (.int (g a b))) : PS X (.AugAssign (.Name nm p) op e pos) (TSm Γ KE kd (evS C ini W (.aug n f me))) := by
  refine ps_weak (ps_aug hN hi hx he ho hf) ?_
  rintro D σ H ⟨G, Hm, i, r, m, x, h⟩
  rw [evS] at h
  cases q : slotV r n with
  | none => rw [q] at h; exact h.elim
  | some z =>
    rw [q] at h
    cases z <;> first | exact h.elim | skip
    rename_i a
    have hz : r[n]? = some (.v (.int a)) := by
      unfold slotV at q
      split at q
      · cases q; assumption
      · cases q
    obtain ⟨w, h1, h2⟩ := x.val n _ hz
    cases h2
    refine ⟨_, h1, G, Hm, i, r, m, x, (AfterS.bind (σ := σ) h).imp fun d r1 m1 Hm1 i1 H1 _ x1 k v rv => ?_⟩
    cases d <;> first | (dsimp only at k; exact k.elim) | skip
    rename_i b
    cases rv
    rw [hb] at k
    dsimp only at k
    unfold Mi.setV at k
    by_cases hl : n < r1.length
    · rw [if_pos hl] at k
      exact ⟨a, b, rfl, rfl, k.nx (x1.setV (.int _) hl)⟩
    · rw [if_neg hl] at k; exact k.elim
theorem putF_new {f : Str} {y : V} : ∀ {fs : List (Str × V)}, f ∉ fs.map (·.1) → putF f y fs = fs ++ [(f, y)]
  | [], _ => rfl
  | (g, v) :: fs, h => by
    have h1 : ¬ g = f := fun z => h (by simp [z])
    show (if g = f then _ else (g, v) :: putF f y fs) = _
    rw [if_neg h1, putF_new fun z => h (by simp [z])]
    rfl
/-- self.f = e -/
theorem s_fld {f : Str} {p' : Pos} (gk : GOk Γ fl) (hK : X.K = Γ.K) (hf : f ∈ fl) (hN : X.N[n]? = some nm) (hv : Vis X.env.scope nm) (hd : (nm == ("__debug__" : Str)) = false) (hc : (nm == ("__classdict__" : Str)) = false) (he : PE X e (TM Γ KE (evE C ini me)))
    (hs : swapsWith e (some (.Attribute (.Name nm p) f p')) pos.line X.env = pure false) : PS X (.Assign [.Attribute (.Name nm p) f p'] e pos) (TSm Γ KE kd (evS C ini W (.fld n f me))) := by
  refine ps_weak (ps_fld (pe_var hN hv hd hc) he hs) ?_
  rintro D σ H ⟨G, Hm, i, r, m, x, h⟩
  rw [evS] at h
  refine ⟨G, Hm, i, r, m, x, (h.bind (σ := σ)).imp fun d r1 m1 Hm1 i1 H1 _ x1 k v rv => ?_⟩
  cases q : slotV r1 n with
  | none => rw [q] at k; exact k.elim
  | some z =>
    rw [q] at k
    cases z <;> first | exact k.elim | skip
    rename_i l
    have hz : r1[n]? = some (.v (.loc l)) := by
      unfold slotV at q
      split at q
      · cases q; assumption
      · cases q
    obtain ⟨w, h1, h2⟩ := x1.val n _ hz
    cases h2 with
    | loc h2 =>
      rename_i a
      cases q3 : m1[l]? with
      | none => simp only [q3] at k; exact k.elim
      | some y =>
        simp only [q3] at k
        cases y <;> first | exact k.elim | skip
        rename_i c ns vs
        dsimp only at k
        by_cases hb : f ∈ ns ∨ 900 < ns.length
        · rw [if_pos hb] at k; exact k.elim
        · rw [if_neg hb] at k
          obtain ⟨b, o, e1, e2, _, e4⟩ := x1.loc l _ q3
          rw [h2] at e1; cases e1
          cases e4 with
          | ins k2 k3 k4 =>
            rename_i Cc dx fs
            have hl : fs.length = ns.length := by rw [← k3, List.length_map]
            refine ⟨_, h1, a, Cc, dx, fs, rfl, e2, by rw [hK]; exact gk.cls _ _ k2, by rw [hK]; exact gk.noat _ _ k2 f hf, by omega, ?_⟩
            rw [putF_new (by rw [k3]; exact fun z => hb (.inl z))]
            refine k.nx (x1.mutL q3 h2 (.ins k2 ?_ ?_))
            · rw [List.map_append, k3]; rfl
            · rw [List.map_append]; exact k4.app (.cons rv .nil)
end
end Mi
end
section
set_option maxRecDepth 100000
/-! Mi: calls, defs, classes. -/
namespace Mi
open PySem L2
/-- the locations stand -/
structure Locs (Γ : Glo) (Hm : Hp) (i : List Addr) (m : List D) (H : Hp) : Prop where
  loc : ∀ (n : Nat) (d : D), m[n]? = some d → ∃ a o, i[n]? = some a ∧ H a = some o ∧ Hm a = none ∧ Con Γ Hm i a o d
  locl : i.length = m.length
  locd : i.Nodup
/-- behind a call -/
structure Exit (Γ : Glo) (ex : Addr → Prop) (H Hm : Hp) (i : List Addr) (m' : List D) (Hm' : Hp) (i' : List Addr) (H' : Hp) : Prop where
  sub : Le Hm' H'
  locs : Locs Γ Hm' i' m' H'
  keep : ∀ (a : Addr) (o : HO), H a = some o → a ∉ i → ¬ ex a → H' a = some o
  new : ∀ (a : Addr) (o : HO), Hm' a = some o → Hm a = some o ∨ H a = none
  old : Le Hm Hm'
  pre : i <+: i'
  locn : ∀ a : Addr, a ∈ i' → a ∈ i ∨ H a = none
/-- a returned value -/
def RetV (kd : Kd) (Γ : Glo) (H Hm' : Hp) (i' : List Addr) (H' : Hp) (v : V) (d : D) : Prop := match kd with
  | .new => ∃ a o, v = .ref a ∧ H' a = some o ∧ Hm' a = none ∧ a ∉ i' ∧ H a = none ∧ Con Γ Hm' i' a o d
  | _ => Rep Γ Hm' i' v d
section
variable {Γ : Glo} {G : Act} {Hm H H0 Hm' H' : Hp} {i i' : List Addr} {r : List Sl} {m m' : List D} {σ : St}
theorem R.locs (x : R Γ G Hm i r m σ H) : Locs Γ Hm i m H := ⟨x.loc, x.locl, x.locd⟩
theorem R.exit {ex : Addr → Prop} (x : R Γ G Hm i r m σ H0) (l : Le H0 H) (e : Exit Γ ex H Hm i m' Hm' i' H') (hx : ∀ a, ex a → H0 a = none) : R Γ G Hm' i' r m' σ H' ∧ Go Hm i Hm' i' := by
  have g : Go Hm i Hm' i' := ⟨e.old, e.pre⟩
  have nn : ∀ {a : Addr}, H a = none → G.H0 a = none := fun h => (x.free (le_none l h)).2.2
  have ne : ∀ {a : Addr} {o : HO}, H0 a = some o → ¬ ex a := fun h z => by rw [hx _ z] at h; cases h
  refine ⟨⟨e.sub, x.len, fun n d h => ?_, fun n d h => ?_, x.apart, e.locs.loc, e.locs.locl, e.locs.locd, fun a o h hi => ?_, fun a o h => ?_, x.old.trans e.old, x.pre.trans e.pre, fun a ha => ?_⟩, g⟩
  · obtain ⟨v, h1, h2⟩ := x.val n d h
    exact ⟨v, h1, h2.go g⟩
  · obtain ⟨a, o, h1, h2, h3, h4, h5, h6⟩ := x.own n d h
    refine ⟨a, o, h1, e.keep a o (l _ _ h2) h4 (ne h2), ?_, fun z => ?_, h5, h6.le g.hm g.pre⟩
    · cases q : Hm' a with
      | none => rfl
      | some u =>
        rcases e.new a u q with z | z
        · rw [h3] at z; cases z
        · rw [l _ _ h2] at z; cases z
    · rcases e.locn a z with z | z
      · exact h4 z
      · rw [l _ _ h2] at z; cases z
  · have ha := x.keep a o h hi
    refine e.keep a o (l _ _ ha) (fun z => ?_) (ne ha)
    rcases x.locn a z with z | z
    · exact hi z
    · rw [z] at h; cases h
  · rcases e.new a o h with z | z
    · exact x.new a o z
    · exact .inr (nn z)
  · rcases e.locn a ha with z | z
    · exact x.locn a z
    · exact .inr (nn z)
theorem R.newOf (x : R Γ G Hm i r m σ H0) (y : R Γ G Hm' i' r m' σ H') {a : Addr} {o : HO} {d : D} (h0 : H0 a = none) (h1 : H' a = some o) (h2 : Hm' a = none) (h3 : a ∉ i') (c : Con Γ Hm' i' a o d) : NewAt Γ G Hm' i' r σ H' a o d :=
  ⟨h1, h2, h3, (x.free h0).2.2, c, fun n e hr hs => by
    obtain ⟨b, u, q1, q2, _⟩ := x.own n e hr
    rw [hs] at q1; cases q1
    rw [h0] at q2; cases q2⟩
end
/-- the promise of a def -/
def spM (Γ : Glo) (kd : Kd) (np : Nat) (cf : List D → List D → CO) : Sp := fun vs H Q _ => vs.length = np ∧ ∃ Hm i ds m, Le Hm H ∧ Reps Γ Hm i vs ds ∧ Locs Γ Hm i m H ∧ match cf ds m with
  | .ok d m' => ∀ Hm' i' H' v, Exit Γ (fun _ => False) H Hm i m' Hm' i' H' → RetV kd Γ H Hm' i' H' v d → Q v H'
  | _ => False
/-- the promise of an __init__ -/
def spI (Γ : Glo) (c : Str) (np : Nat) (cf : List D → List D → CO) : Sp := fun vs H Q _ => vs.length = np ∧ ∃ a C dx ws Hm i ds m, vs = .ref a :: ws ∧ H a = some (.ins C dx []) ∧ Γ.cA c = some C ∧ Le Hm H ∧ Hm a = none ∧ a ∉ i ∧ Reps Γ Hm i ws ds ∧ Locs Γ Hm i m H ∧ match cf ds m with
  | .ok d m' => ∀ Hm' H' o, Exit Γ (· = a) H Hm i m' Hm' i H' → H' a = some o → Hm' a = none → Con Γ Hm' i a o d → Q .non H'
  | _ => False
section
variable {X : Cx} {Γ : Glo} {C : Nat → List D → List D → CO} {ini : Str → Option Nat} {W : Nat} {pos p : Pos} {nm : Str} {e : Expr} {es : List Expr} {mes : List E} {f k np : Nat} {fa : Addr} {fd : FuncData} {ps : List Str} {kd : Kd}
theorem calls_ok {G : Act} {σ : St} {Hm : Hp} {i : List Addr} {ds : List D} {r : List Sl} {m : List D} {K : D → List Sl → List D → Hp → List Addr → Hp → Prop} (h : After Γ G σ KEF Hm i (calls C f ds r m) K) : ∃ d m', C f ds m = .ok d m' ∧ After Γ G σ KEF Hm i (.ok d r m') K := by
  unfold calls at h
  cases q : C f ds m with
  | ok d m' => rw [q] at h; exact ⟨d, m', rfl, h⟩
  | ex x m' => rw [q] at h; exact (h Hm i (Go.refl _ _)).elim
  | bad => rw [q] at h; exact h.elim
theorem tm_call (hn : mes.length = np) (hk : kd ≠ .new) : ∀ σ H Q, TM Γ KEF (evE C ini (.call f mes)) σ H Q → tCall (spM Γ kd np (C f)) [] E0 (TA Γ KEF (evEs C ini mes)) σ H Q := by
  rintro σ H Q ⟨G, Hm, i, r, m, x, h⟩
  rw [evE] at h
  refine ⟨G, Hm, i, r, m, x, h.bind.ev.imp fun ds r1 m1 Hm1 i1 H1 _ x1 ⟨he, k1⟩ vs rvs => ?_⟩
  obtain ⟨d, m', e1, k2⟩ := calls_ok k1
  rw [List.append_nil]
  refine ⟨by rw [rvs.length, evEs_len mes r m he, hn], Hm1, i1, ds, m1, x1.sub, rvs, x1.locs, ?_⟩
  rw [e1]
  intro Hm' i' H' v ex rv
  obtain ⟨y, g⟩ := x1.exit (Le.refl _) ex fun _ z => z.elim
  refine k2 Hm' i' H' g y v ?_
  cases kd with
  | new => exact absurd rfl hk
  | any => exact rv
  | init c => exact rv
theorem call_new (hn : mes.length = np) {σ : St} {H : Hp} {Q : VK} {G : Act} {Hm : Hp} {i : List Addr} {r : List Sl} {m : List D} (x : R Γ G Hm i r m σ H)
    {K : D → List Sl → List D → Hp → List Addr → Hp → Prop} (h : After Γ G σ KEF Hm i (evE C ini (.call f mes) r m) K) (hK : ∀ d r1 m1 Hm' i' H' a o, R Γ G Hm' i' r1 m1 σ H' → NewAt Γ G Hm' i' r1 σ H' a o d → K d r1 m1 Hm' i' H' → (∀ Hm2 i2 H2, Go Hm' i' Hm2 i2 → R Γ G Hm2 i2 r1 m1 σ H2 → K d r1 m1 Hm2 i2 H2) → Q (.ref a) H') :
    tCall (spM Γ .new np (C f)) [] E0 (TA Γ KEF (evEs C ini mes)) σ H Q := by
  rw [evE] at h
  refine ⟨G, Hm, i, r, m, x, h.bind.ev.imp fun ds r1 m1 Hm1 i1 H1 _ x1 ⟨he, k1⟩ vs rvs => ?_⟩
  obtain ⟨d, m', e1, k2⟩ := calls_ok k1
  rw [List.append_nil]
  refine ⟨by rw [rvs.length, evEs_len mes r m he, hn], Hm1, i1, ds, m1, x1.sub, rvs, x1.locs, ?_⟩
  rw [e1]
  rintro Hm' i' H' v ex ⟨a, o, rfl, q1, q2, q3, q4, q5⟩
  obtain ⟨y, g⟩ := x1.exit (Le.refl _) ex fun _ z => z.elim
  exact hK d r1 m' Hm' i' H' a o y (x1.newOf y q4 q1 q2 q3 q5) (k2 Hm' i' H' g y) fun Hm2 i2 H2 g2 y2 => k2 Hm2 i2 H2 (g.trans g2) y2
theorem tm_callN (hn : mes.length = np) : ∀ σ H Q, TM Γ KEF (evE C ini (.call f mes)) σ H Q → tCall (spM Γ .new np (C f)) [] E0 (TA Γ KEF (evEs C ini mes)) σ H Q := by
  rintro σ H Q ⟨G, Hm, i, r, m, x, h⟩
  refine call_new hn x h fun d r1 m1 Hm' i' H' a o y n _ k => ?_
  obtain ⟨z1, z2, z3⟩ := n.frz y
  exact k _ i' H' z3 z1 (.ref a) z2
theorem tn_callN (hn : mes.length = np) : ∀ σ H Q, TN Γ KEF (evE C ini (.call f mes)) σ H Q → tCall (spM Γ .new np (C f)) [] E0 (TA Γ KEF (evEs C ini mes)) σ H Q := by
  rintro σ H Q ⟨G, Hm, i, r, m, x, h⟩
  have h' : After Γ G σ KEF Hm i (evE C ini (.call f mes) r m) fun d r' m' Hm' i' H' => ∀ a o, NewAt Γ G Hm' i' r' σ H' a o d → Q (.ref a) H' := by
    cases q : evE C ini (.call f mes) r m with
    | ok d r1 m1 => rw [q] at h; exact (cont_ok h).2
    | ex _ _ _ => rw [q] at h; exact h
    | bad => rw [q] at h; exact h.elim
  exact call_new hn x h' fun d r1 m1 Hm' i' H' a o y n k _ => k a o n
variable (F : FnOk X.prog X.w X.K X.mg X.base CX0 k fa fd ps (spM Γ kd np (C f))) (hr : Room k X.A) (hg : Gl X nm) (hm : X.mg nm = some (.ref fa)) (hk : PySem.W.keepIn X.K (.ref fa) = true) (hb : Binds X.K fd ps []) (hdb : (nm == ("__debug__" : Str)) = false)
include F hr hg hm hk hb hdb
theorem e_call (ha : PA X es (TA Γ KEF (evEs C ini mes))) (hs : es.all noStar = true) (hne : es ≠ []) (hn : mes.length = np) : PE X (.Call (.Name nm p) es [] pos) (TM Γ KEF (evE C ini (.call f mes))) := by
  have w : ∀ σ H Q, TM Γ KEF (evE C ini (.call f mes)) σ H Q → tCall (spM Γ kd np (C f)) [] E0 (TA Γ KEF (evEs C ini mes)) σ H Q := by
    cases kd with
    | new => exact tm_callN hn
    | any => exact tm_call hn (by intro z; cases z)
    | init c => exact tm_call hn (by intro z; cases z)
  cases es with
  | nil => exact absurd rfl hne
  | cons e es => exact pe_weak (pe_call F hr hg hm hk hb .nil pass0 ha hdb (pl_no (pos := pos) hs).1 (pl_no hs).2) w
theorem n_call (hkd : kd = .new) (ha : PA X es (TA Γ KEF (evEs C ini mes))) (hs : es.all noStar = true) (hne : es ≠ []) (hn : mes.length = np) : PE X (.Call (.Name nm p) es [] pos) (TN Γ KEF (evE C ini (.call f mes))) := by
  subst hkd
  cases es with
  | nil => exact absurd rfl hne
  | cons e es => exact pe_weak (pe_call F hr hg hm hk hb .nil pass0 ha hdb (pl_no (pos := pos) hs).1 (pl_no hs).2) (tn_callN hn)
end
section
/-! ### classes -/
mutual
theorem Rep.noLoc {Γ : Glo} {Hm : Hp} {i i' : List Addr} : ∀ {v : V} {d : D}, Rep Γ Hm i v d → noLoc d = true → Rep Γ Hm i' v d
  | _, _, .non, _ => .non
  | _, _, .bl b, _ => .bl b
  | _, _, .int n, _ => .int n
  | _, _, .str x, _ => .str x
  | _, _, .tup h r, e => .tup h (Reps.noLoc r (by simpa [Mi.noLoc] using e))
  | _, _, .lst h r, e => .lst h (Reps.noLoc r (by simpa [Mi.noLoc] using e))
  | _, _, .dct h r s n, e => by
    simp only [Mi.noLoc, Bool.and_eq_true] at e
    exact .dct h (RepE.noLoc r e.1 e.2) s n
  | _, _, .ins h c e1 r, e => .ins h c e1 (Reps.noLoc r (by simpa [Mi.noLoc] using e))
  | _, _, .loc h, e => by simp [Mi.noLoc] at e
theorem Reps.noLoc {Γ : Glo} {Hm : Hp} {i i' : List Addr} : ∀ {v : List V} {d : List D}, Reps Γ Hm i v d → noLocs d = true → Reps Γ Hm i' v d
  | _, _, .nil, _ => .nil
  | _, _, .cons h r, e => by
    simp only [noLocs, Bool.and_eq_true] at e
    exact .cons (Rep.noLoc h e.1) (Reps.noLoc r e.2)
theorem RepE.noLoc {Γ : Glo} {Hm : Hp} {i i' : List Addr} : ∀ {L : List (Int × Value × Value)} {ks vs : List D}, RepE Γ Hm i L ks vs → noLocs ks = true → noLocs vs = true → RepE Γ Hm i' L ks vs
  | _, _, _, .nil, _, _ => .nil
  | _, _, _, .cons a b c d r, e1, e2 => by
    simp only [noLocs, Bool.and_eq_true] at e1 e2
    exact .cons a (Rep.noLoc b e1.1) c (Rep.noLoc d e2.1) (RepE.noLoc r e1.2 e2.2)
end
theorem Con.noLoc {Γ : Glo} {Hm : Hp} {i i' : List Addr} {a : Addr} {o : HO} {d : D} (h : Con Γ Hm i a o d) (e : noLoc d = true) : Con Γ Hm i' a o d := by
  cases h with
  | lst r => exact .lst (r.noLoc (by simpa [Mi.noLoc] using e))
  | dct r s n =>
    simp only [Mi.noLoc, Bool.and_eq_true] at e
    exact .dct (r.noLoc e.1 e.2) s n
  | ins c e1 r => exact .ins c e1 (r.noLoc (by simpa [Mi.noLoc] using e))
theorem noLocs_get {n : Nat} {d : D} : ∀ {l : List D}, noLocs l = true → l[n]? = some d → noLoc d = true := by
  intro l
  induction l generalizing n with
  | nil => intro _ h; simp at h
  | cons x xs ih =>
    intro h e
    simp only [noLocs, Bool.and_eq_true] at h
    cases n with
    | zero => simp at e; subst e; exact h.1
    | succ n => exact ih h.2 (by simpa using e)
variable {X : Cx} {Γ : Glo} {C : Nat → List D → List D → CO} {ini : Str → Option Nat} {W : Nat} {pos p : Pos} {nm c : Str} {es : List Expr} {mes : List E} {f k np : Nat} {fa Cc : Addr} {fd : FuncData} {ps : List Str}
theorem tm_mk (hi : ini c = some f) (hc : Γ.cA c = some Cc) (hn : mes.length + 1 = np) : ∀ σ H Q, TM Γ KEF (evE C ini (.mk c mes)) σ H Q → tMake Cc (spI Γ c np (C f)) [] E0 (TA Γ KEF (evEs C ini mes)) σ H Q := by
  rintro σ H Q ⟨G, Hm, i, r, m, x, h⟩
  rw [evE] at h
  refine ⟨G, Hm, i, r, m, x, h.bind.ev.imp fun ds r1 m1 Hm1 i1 H1 _ x1 ⟨he, k1⟩ vs rvs => ?_⟩
  rw [hi] at k1
  obtain ⟨d, m', e1, k2⟩ := calls_ok k1
  intro a dx ha hdx hne
  have l1 : Le H1 (upd H1 dx (.own a)) := le_upd hdx
  have ha' : upd H1 dx (.own a) a = none := by rw [upd_ne (Ne.symm hne)]; exact ha
  have l2 : Le H1 (upd (upd H1 dx (.own a)) a (.ins Cc dx [])) := l1.trans (le_upd ha')
  rw [List.append_nil]
  refine ⟨by rw [List.length_cons, rvs.length, evEs_len mes r m he, hn], a, Cc, dx, vs, Hm1, i1, ds, m1, rfl, upd_same, hc, x1.sub.trans l2, (x1.free ha).1, (x1.free ha).2.1, rvs, ⟨fun n d h => ?_, x1.locl, x1.locd⟩, ?_⟩
  · obtain ⟨b, o, q1, q2, q3, q4⟩ := x1.loc n d h
    exact ⟨b, o, q1, l2 _ _ q2, q3, q4⟩
  · rw [e1]
    intro Hm' H' o ex hO hn' cn
    obtain ⟨y, g⟩ := x1.exit l2 ex fun b hb => by rw [hb]; exact ha
    have nw := x1.newOf y ha hO hn' (x1.free ha).2.1 cn
    obtain ⟨z1, z2, z3⟩ := nw.frz y
    exact ⟨rfl, k2 _ _ _ (g.trans z3) z1 (.ref a) z2⟩
variable (M : Mk X.K Cc fa) (F : FnOk X.prog X.w X.K X.mg X.base CX0 k fa fd ps (spI Γ c np (C f))) (hr : Room (k + 1) X.A) (hg : Gl X nm) (hm : X.mg nm = some (.ref Cc)) (hb : Binds X.K fd ps []) (hdb : (nm == ("__debug__" : Str)) = false)
include M F hr hg hm hb hdb
theorem e_mk (hi : ini c = some f) (hc : Γ.cA c = some Cc) (ha : PA X es (TA Γ KEF (evEs C ini mes))) (hs : es.all noStar = true) (hne : es ≠ []) (hn : mes.length + 1 = np) : PE X (.Call (.Name nm p) es [] pos) (TM Γ KEF (evE C ini (.mk c mes))) := by
  cases es with
  | nil => exact absurd rfl hne
  | cons e es => exact pe_weak (pe_make M F hr hg hm hb .nil pass0 ha hdb (pl_no (pos := pos) hs).1 (pl_no hs).2) (tm_mk hi hc hn)
end
section
/-! ### the defs -/
variable {P : Program} {w : World} {K : PySem.W.Frag} {mg : Str → Option Value} {base : Heap} {Γ : Glo} {C : Nat → List D → List D → CO} {ini : Str → Option Nat} {W : Nat}
theorem start_val {N : List Str} {vs : List V} {ds : List D} {Hm : Hp} {i : List Addr} (hr : Reps Γ Hm i vs ds) {n : Nat} {d : D} (h : (ds.map Sl.v ++ List.replicate (N.length - vs.length) .un)[n]? = some (.v d)) : ∃ x, (L2.start N vs)[n]? = some (some x) ∧ Rep Γ Hm i x d := by
  unfold L2.start
  by_cases hl : n < ds.length
  · rw [List.getElem?_append_left (by simpa using hl), List.getElem?_map] at h
    obtain ⟨d', h1, h2⟩ := map_some h
    cases h2
    obtain ⟨x, h3, h4⟩ := hr.get' h1
    exact ⟨x, by rw [List.getElem?_append_left (by simpa [hr.length] using hl), List.getElem?_map, h3]; rfl, h4⟩
  · rw [List.getElem?_append_right (by simpa using hl), List.getElem?_replicate] at h
    split at h <;> cases h
theorem start_own {k : Nat} {ds : List D} {n : Nat} {d : D} (h : (ds.map Sl.v ++ List.replicate k .un)[n]? = some (.o d)) : False := by
  by_cases hl : n < ds.length
  · rw [List.getElem?_append_left (by simpa using hl), List.getElem?_map] at h
    obtain ⟨d', h1, h2⟩ := map_some h
    cases h2
  · rw [List.getElem?_append_right (by simpa using hl), List.getElem?_replicate] at h
    split at h <;> cases h
theorem start_R {N : List Str} {vs : List V} {ds : List D} {Hm H : Hp} {i : List Addr} {m : List D} (s : Le Hm H) (hr : Reps Γ Hm i vs ds) (hl : Locs Γ Hm i m H) (hN : vs.length ≤ N.length) :
    R Γ ⟨H, Hm, i⟩ Hm i (ds.map Sl.v ++ List.replicate (N.length - vs.length) .un) m (L2.start N vs) H where
  sub := s
  len := by unfold L2.start; simp [hr.length]
  val := fun n d h => start_val hr h
  own := fun n d h => (start_own h).elim
  apart := fun n k d e a _ h1 _ _ => (start_own h1).elim
  loc := hl.loc
  locl := hl.locl
  locd := hl.locd
  keep := fun a o h _ => h
  new := fun a o h => .inl h
  old := Le.refl _
  pre := List.prefix_refl _
  locn := fun a h => .inl h
theorem R.toExit {H Hm Hm' H' : Hp} {i i' : List Addr} {r : List Sl} {m' : List D} {σ : St} (x : R Γ ⟨H, Hm, i⟩ Hm' i' r m' σ H') : Exit Γ (fun _ => False) H Hm i m' Hm' i' H' :=
  ⟨x.sub, x.locs, fun a o h hi _ => x.keep a o h hi, x.new, x.old, x.pre, x.locn⟩
/-- a def keeps its promise -/
theorem fn_M {x qual : Str} {st : Stmt} {fa : Addr} {fd : FuncData} {N ps : List Str} {k : Nat} {kd : Kd} {body : List S} (F : Fun K x qual st fa fd) (Sc : FnScope N ps (defScope st)) (hkd : ∀ c, kd ≠ .init c)
    (hb : ∀ (cdv : Value) (A : Around) (outer : List Env) (s : Shared) (H : Hp) (E : XK), Room k (A.deeper (PyProof.Rows.envOfC qual (defScope st) s.heap.objs.size fa cdv)) →
      PSs (cxOf CX0 P w K mg base N qual (defScope st) fa cdv A outer s H E).nox (defBody st) (TSm Γ KEF kd (evSs C ini W body))) :
    FnOk P w K mg base CX0 (k + 1) fa fd ps (spM Γ kd ps.length (fun ds m => runFd C ini W ⟨ps.length, N, kd, body⟩ ds m)) := by
  have hpl : ps.length ≤ N.length := by have := congrArg List.length Sc.pre; rw [List.length_take] at this; omega
  refine F.ok Sc (fun vs H Q E h => h.1) fun cdv A outer s H vs Q E hr h => ⟨_, hb cdv A outer s H E hr, ?_⟩
  obtain ⟨hv, Hm, i, ds, m, sub, rv, lc, h⟩ := h
  refine ⟨⟨H, Hm, i⟩, Hm, i, _, m, start_R sub rv lc (by omega), ?_⟩
  have hd : ds.length = ps.length := by rw [← rv.length, hv]
  rw [hv]
  have e1 : runFd C ini W ⟨ps.length, N, kd, body⟩ ds m = (match evSs C ini W body (ds.map Sl.v ++ List.replicate (N.length - ps.length) .un) m with
      | .ok .nx _ m' => if kd = .new then .bad else .ok .non m'
      | .ok (.rt d) _ m' => .ok d m'
      | .ex x _ m' => .ex x m'
      | .bad => .bad) := by
    unfold runFd
    cases kd with
    | init c => exact absurd rfl (hkd c)
    | any => simp only [hd, if_true] <;> rfl
    | new => simp only [hd, if_true] <;> rfl
  dsimp only at h
  rw [e1] at h
  cases q : evSs C ini W body (ds.map Sl.v ++ List.replicate (N.length - ps.length) .un) m with
  | ok kk r' m' =>
    rw [q] at h
    cases kk with
    | nx =>
      intro Hm' i' σ' H' g y
      by_cases hk : kd = .new
      · simp only [hk, if_true] at h
      · simp only [hk, if_false] at h
        refine h Hm' i' H' .non y.toExit ?_
        cases kd with
        | new => exact absurd rfl hk
        | any => exact .non
        | init c => exact .non
    | rt d =>
      intro Hm' i' σ' H' v g y rt
      refine h Hm' i' H' v y.toExit ?_
      cases kd with
      | new => exact rt
      | any => exact rt
      | init c => exact rt
  | ex _ _ _ => rw [q] at h; exact h.elim
  | bad => rw [q] at h; exact h.elim
theorem pre_eq {α : Type} {i j : List α} (h : i <+: j) (hl : i.length = j.length) : j = i := by
  obtain ⟨t, rfl⟩ := h
  have : t = [] := by
    cases t with
    | nil => rfl
    | cons _ _ => simp at hl
  rw [this, List.append_nil]
/-- an __init__ keeps its promise -/
theorem fn_I {x qual c : Str} {st : Stmt} {fa : Addr} {fd : FuncData} {N ps : List Str} {k : Nat} {body : List S} (F : Fun K x qual st fa fd) (Sc : FnScope N ps (defScope st))
    (hb : ∀ (cdv : Value) (A : Around) (outer : List Env) (s : Shared) (H : Hp) (E : XK), Room k (A.deeper (PyProof.Rows.envOfC qual (defScope st) s.heap.objs.size fa cdv)) →
      PSs (cxOf CX0 P w K mg base N qual (defScope st) fa cdv A outer s H E).nox (defBody st) (TSm Γ KEF (.init c) (evSs C ini W body))) :
    FnOk P w K mg base CX0 (k + 1) fa fd ps (spI Γ c ps.length (fun ds m => runFd C ini W ⟨ps.length, N, .init c, body⟩ ds m)) := by
  have hpl : ps.length ≤ N.length := by have := congrArg List.length Sc.pre; rw [List.length_take] at this; omega
  refine F.ok Sc (fun vs H Q E h => h.1) fun cdv A outer s H vs Q E hr h => ⟨_, hb cdv A outer s H E hr, ?_⟩
  obtain ⟨hv, a, Cc, dx, ws, Hm, i, ds, m, rfl, hA, hc, sub, hm, ni, rv, lc, h⟩ := h
  have hd : ds.length + 1 = ps.length := by rw [← rv.length]; exact hv
  have pr : i <+: i ++ [a] := List.prefix_append _ _
  have hll := lc.locl
  have lc2 : Locs Γ Hm (i ++ [a]) (m ++ [.ins c [] []]) H := by
    refine ⟨fun n d e => ?_, by simp [hll], ?_⟩
    · by_cases hn : n < m.length
      · rw [List.getElem?_append_left hn] at e
        obtain ⟨b, o, q1, q2, q3, q4⟩ := lc.loc n d e
        exact ⟨b, o, ix_pre pr q1, q2, q3, q4.le (Le.refl _) pr⟩
      · have hn' : n = m.length := by
          have := getsome e
          simp at this
          omega
        subst hn'
        simp at e
        subst e
        exact ⟨a, _, by rw [← hll]; simp, hA, hm, .ins hc rfl .nil⟩
    · rw [List.nodup_append]
      exact ⟨lc.locd, by simp, fun b hb c hc => by simp only [List.mem_singleton] at hc; subst hc; exact fun z => ni (z ▸ hb)⟩
  have rv2 : Reps Γ Hm (i ++ [a]) (.ref a :: ws) (.loc m.length :: ds) := .cons (.loc (by rw [← hll]; simp)) (rv.le (Le.refl _) pr)
  refine ⟨⟨H, Hm, i ++ [a]⟩, Hm, i ++ [a], _, _, start_R sub rv2 lc2 (by omega), ?_⟩
  rw [hv]
  have e1 : runFd C ini W ⟨ps.length, N, .init c, body⟩ ds m = (match evSs C ini W body ((.loc m.length :: ds).map Sl.v ++ List.replicate (N.length - ps.length) .un) (m ++ [.ins c [] []]) with
      | .ok .nx _ m' => match m'.drop m.length with
        | [d] => if noLoc d && noLocs (m'.take m.length) then .ok d (m'.take m.length) else .bad
        | _ => .bad
      | .ok (.rt _) _ _ => .bad
      | .ex x _ m' => .ex x (m'.take m.length)
      | .bad => .bad) := by
    unfold runFd
    simp only [hd, if_true]
    rfl
  dsimp only at h
  rw [e1] at h
  cases q : evSs C ini W body ((.loc m.length :: ds).map Sl.v ++ List.replicate (N.length - ps.length) .un) (m ++ [.ins c [] []]) with
  | ok kk r' m' =>
    rw [q] at h
    cases kk with
    | nx =>
      dsimp only at h
      intro Hm' i' σ' H' g y
      cases q2 : m'.drop m.length with
      | nil => rw [q2] at h; exact h.elim
      | cons d l =>
        cases l with
        | cons _ _ => rw [q2] at h; exact h.elim
        | nil =>
          rw [q2] at h
          dsimp only at h
          by_cases hno : (noLoc d && noLocs (m'.take m.length)) = true
          · rw [if_pos hno] at h
            rw [Bool.and_eq_true] at hno
            have hml : m'.length = m.length + 1 := by
              have := congrArg List.length q2
              rw [List.length_drop] at this
              simp at this
              omega
            have hi' : i' = i ++ [a] := pre_eq y.pre (by rw [y.locl, hml]; simp [hll])
            subst hi'
            have hd' : m'[m.length]? = some d := by
              have : (m'.drop m.length)[0]? = some d := by rw [q2]; rfl
              rwa [List.getElem?_drop, Nat.add_zero] at this
            obtain ⟨a', o, f1, f2, f3, f4⟩ := y.loc _ d hd'
            have : a' = a := by
              rw [← hll] at f1
              simpa using f1.symm
            subst this
            refine h Hm' H' o ⟨y.sub, ⟨fun n d2 e => ?_, ?_, lc.locd⟩, fun b u hb hbi hba => y.keep b u hb fun z => ?_, y.new, y.old, List.prefix_refl _, fun b hb => .inl hb⟩ f2 f3 (f4.noLoc hno.1)
            · have hn : n < m.length := by
                have := getsome e
                rw [List.length_take] at this
                omega
              have e2 : m'[n]? = some d2 := by rwa [List.getElem?_take_of_lt hn] at e
              obtain ⟨b, u, g1, g2, g3, g4⟩ := y.loc n d2 e2
              refine ⟨b, u, ?_, g2, g3, g4.noLoc (noLocs_get hno.2 e)⟩
              rwa [List.getElem?_append_left (by rw [hll]; exact hn)] at g1
            · rw [List.length_take, hll]; omega
            · rcases List.mem_append.mp z with z | z
              · exact hbi z
              · exact hba (by simpa using z)
          · rw [if_neg hno] at h; exact h.elim
    | rt d => exact h.elim
  | ex _ _ _ => rw [q] at h; exact h.elim
  | bad => rw [q] at h; exact h.elim
/-- a raise that is never reached -/
theorem s_raise {X : Cx} {kd : Kd} {e : Option Expr} {pos : Pos} {c : Str} {mes : List E} {o : Option Expr} : PS X (.Raise e o pos) (TSm Γ KEF kd (evS C ini W (.raise c mes))) := by
  refine ps_weak ps_never ?_
  rintro D σ H ⟨G, Hm, i, r, m, x, h⟩
  rw [evS] at h
  cases q : evEs C ini mes r m with
  | ok ds r1 m1 => rw [q] at h; exact h Hm i (Go.refl _ _)
  | ex _ _ _ => rw [q] at h; exact h Hm i (Go.refl _ _)
  | bad => rw [q] at h; exact h
end
end Mi
end
section
set_option maxRecDepth 100000
/-! Mi: the check of a def's text; its soundness. -/
namespace Mi
open PySem L2
/-! ### tables -/
section
variable {X : Cx} {Γ : Glo} (hK : X.K = Γ.K) (hu : X.A.units + 70 < cLine) (hc : X.calm = true)
def binB (f : Bi) : Operator → Bool
  | .Add => f == .add
  | .Sub => f == .sub
  | .Mult => f == .mul
  | .Mod => f == .mod
  | .FloorDiv => f == .fdiv
  | .Pow => f == .pow
  | .LShift => f == .shl
  | .RShift => f == .shr
  | .BitAnd => f == .band
  | .BitXor => f == .bxor
  | _ => false
theorem rd_mulI : Rd2 Γ .mul (fun x y H Q => rI CMulB (fun i j => .int (i * j)) x y H Q) := rd_int fun m a b d e => by
  change b_mul m [a, b] = some d at e
  unfold b_mul at e
  split at e
  · split at e
    · rename_i q q2; cases e; obtain ⟨rfl, rfl⟩ := two_eq q; exact ⟨_, _, rfl, rfl, q2, rfl⟩
    · cases e
  · cases e
include hK in
theorem bin_ok {f : Bi} {op : Operator} (h : binB f op = true) : ∃ r, OpR X (binaryOp op) r ∧ Rd2 Γ f r := by
  cases op <;> first | (cases h; done) | (simp only [binB, beq_iff_eq] at h; subst h)
  · exact ⟨_, op_addM, hK ▸ rd_add⟩
  · exact ⟨_, op_sub, rd_sub⟩
  · exact ⟨_, op_mulB, rd_mulI⟩
  · exact ⟨_, op_modN, rd_mod⟩
  · exact ⟨_, op_pow, rd_pow⟩
  · exact ⟨_, op_shl, rd_shl⟩
  · exact ⟨_, op_shr, rd_shr⟩
  · exact ⟨_, op_xor, rd_bxor⟩
  · exact ⟨_, op_and, rd_band⟩
  · exact ⟨_, op_fdivB, rd_fdiv⟩
def cmpB (f : Bi) : CmpOp → Bool
  | .Eq => f == .eq
  | .NotEq => f == .ne
  | .Lt => f == .lt
  | .LtE => f == .le
  | .Gt => f == .gt
  | .GtE => f == .ge
  | .In => f == .isin
  | .NotIn => f == .notin
  | .Is => f == .is
  | .IsNot => f == .isnot
include hK hu in
theorem cmp_ok {f : Bi} {op : CmpOp} (h : cmpB f op = true) : ∃ r, OpR X (compareOp op) r ∧ Rd2 Γ f r := by
  cases op <;> (simp only [cmpB, beq_iff_eq] at h; subst h)
  · exact ⟨_, op_eqD (by omega), hK ▸ rd_eq⟩
  · exact ⟨_, op_neD (by omega), hK ▸ rd_ne⟩
  · exact ⟨_, op_lt.or (op_ltD (by omega)), hK ▸ rd_lt⟩
  · exact ⟨_, op_le, rd_le⟩
  · exact ⟨_, op_gt.or (op_gtD (by omega)), hK ▸ rd_gt⟩
  · exact ⟨_, op_ge, rd_ge⟩
  · exact ⟨_, op_isN, rd_is⟩
  · exact ⟨_, op_notN, rd_isnot⟩
  · exact ⟨_, op_inS.or ((op_inD (by omega)).or (op_inTup (by omega))), hK ▸ rd_in⟩
  · exact ⟨_, (op_notInD (by omega)).or (op_ninTup (by omega)), hK ▸ rd_nin⟩
/-- builtins by their names -/
def calB (f : Bi) (x : Str) : Bool :=
  match f with
  | .len => x == "len" | .all => x == "all" | .any => x == "any" | .sum => x == "sum" | .min2 => x == "min" | .max2 => x == "max" | .abs => x == "abs" | .int => x == "int" | .list => x == "list" | .tuple => x == "tuple" | .sort => x == "sorted"
  | _ => false
def blts : List Str := ["len", "all", "any", "sum", "min", "max", "abs", "int", "list", "tuple", "sorted", "isinstance", "range", "zip", "enumerate", "set", "str", "bool", "dict"]
variable {C : Nat → List D → List D → CO} {ini : Str → Option Nat} {pos p : Pos}
theorem nm_ne {x : Str} (h : x ∈ blts) : x ≠ "__name__" ∧ (x == ("__debug__" : Str)) = false := by
  unfold blts at h
  simp only [List.mem_cons, List.not_mem_nil, or_false] at h
  rcases h with h | h | h | h | h | h | h | h | h | h | h | h | h | h | h | h | h | h | h <;> (subst h; exact ⟨by decide +kernel, by decide +kernel⟩)
include hK hu hc in
theorem cal_ok {f : Bi} {x : Str} {e : Expr} {es : List Expr} {as : List A} (h : calB f x = true) (hg : Gl X x) (hm : X.mg x = none) (ha : PA X (e :: es) (TAo Γ KEF (evAs C ini as))) (hs : (e :: es).all noStar = true) : PE X (.Call (.Name x p) (e :: es) [] pos) (TM Γ KEF (evE C ini (.bi f as))) := by
  have key : ∀ y : Str, x = y → y ∈ blts → x ≠ "__name__" ∧ (x == ("__debug__" : Str)) = false := fun y hy hm => by subst hy; exact nm_ne hm
  cases f <;> first | (cases h; done) | skip
  · simp only [calB, beq_iff_eq] at h; obtain ⟨k1, k2⟩ := key _ h (by decide +kernel); subst h
    exact e_callB call_len (hK ▸ rd_len) hg hm PySem.boot_len k1 k2 ha hs
  · simp only [calB, beq_iff_eq] at h; obtain ⟨k1, k2⟩ := key _ h (by decide +kernel); subst h
    exact e_callB (cr_sortM (by omega)) (hK ▸ rd_sort) hg hm (by decide +kernel) k1 k2 ha hs
  · simp only [calB, beq_iff_eq] at h; obtain ⟨k1, k2⟩ := key _ h (by decide +kernel); subst h
    exact e_callB (cr_all hc) (hK ▸ rd_all) hg hm (by decide +kernel) k1 k2 ha hs
  · simp only [calB, beq_iff_eq] at h; obtain ⟨k1, k2⟩ := key _ h (by decide +kernel); subst h
    exact e_callB (cr_any hc) (hK ▸ rd_any) hg hm (by decide +kernel) k1 k2 ha hs
  · simp only [calB, beq_iff_eq] at h; obtain ⟨k1, k2⟩ := key _ h (by decide +kernel); subst h
    exact e_callB (cr_sum hc) (hK ▸ rd_sum) hg hm (by decide +kernel) k1 k2 ha hs
  · simp only [calB, beq_iff_eq] at h; obtain ⟨k1, k2⟩ := key _ h (by decide +kernel); subst h
    exact e_callB (call_min2 hc) rd_min2 hg hm (by decide +kernel) k1 k2 ha hs
  · simp only [calB, beq_iff_eq] at h; obtain ⟨k1, k2⟩ := key _ h (by decide +kernel); subst h
    exact e_callB (call_max2 hc) rd_max2 hg hm (by decide +kernel) k1 k2 ha hs
  · simp only [calB, beq_iff_eq] at h; obtain ⟨k1, k2⟩ := key _ h (by decide +kernel); subst h
    exact e_callB call_abs rd_abs hg hm (by decide +kernel) k1 k2 ha hs
  · simp only [calB, beq_iff_eq] at h; obtain ⟨k1, k2⟩ := key _ h (by decide +kernel); subst h
    exact e_callT call_int1 rd_int1 hg hm (by decide +kernel) k1 k2 ha hs
  · simp only [calB, beq_iff_eq] at h; obtain ⟨k1, k2⟩ := key _ h (by decide +kernel); subst h
    exact e_callT call_list_of (hK ▸ rd_list) hg hm (by decide +kernel) k1 k2 ha hs
  · simp only [calB, beq_iff_eq] at h; obtain ⟨k1, k2⟩ := key _ h (by decide +kernel); subst h
    exact e_callT call_tuple_of (hK ▸ rd_tuple) hg hm (by decide +kernel) k1 k2 ha hs
def calN (f : Bi) (x : Str) : Bool :=
  match f with
  | .list => x == "list" | .sort => x == "sorted"
  | _ => false
include hK hu hc in
theorem calN_ok {f : Bi} {x : Str} {e : Expr} {es : List Expr} {as : List A} (h : calN f x = true) (hg : Gl X x) (hm : X.mg x = none) (ha : PA X (e :: es) (TAo Γ KEF (evAs C ini as))) (hs : (e :: es).all noStar = true) : PE X (.Call (.Name x p) (e :: es) [] pos) (TN Γ KEF (evE C ini (.bi f as))) := by
  have key : ∀ y : Str, x = y → y ∈ blts → x ≠ "__name__" ∧ (x == ("__debug__" : Str)) = false := fun y hy hm => by subst hy; exact nm_ne hm
  cases f <;> first | (cases h; done) | skip
  · simp only [calN, beq_iff_eq] at h; obtain ⟨k1, k2⟩ := key _ h (by decide +kernel); subst h
    exact n_callB (cr_sortM (by omega)) (hK ▸ rdn_sort) hg hm (by decide +kernel) k1 k2 ha hs
  · simp only [calN, beq_iff_eq] at h; obtain ⟨k1, k2⟩ := key _ h (by decide +kernel); subst h
    exact n_callT call_list_of (hK ▸ rdn_list) hg hm (by decide +kernel) k1 k2 ha hs
end
end Mi
end
section
set_option maxRecDepth 100000
/-! Mi: the check of a def's text. -/
namespace Mi
open PySem L2
inductive Mo where
  | v | t | n
  deriving DecidableEq
/-- a frame's names -/
structure Sc where
  N : List Str
  sc : Scope
  fnb : Str → Bool
/-- the module's names -/
structure Pn where
  defs : Str → Option (Nat × Nat × Bool)
  cls : List (Str × Nat × Nat)
  consts : Str → Option D
  fl : List Str
def gloB (c : Sc) (x : Str) : Bool := decide (c.sc.names.lookup x = some .globalImplicit)
def visK : Option NameKind → Bool
  | some .local => true
  | some .cell => true
  | some .free => true
  | _ => false
def okN (x : Str) : Bool := !(x == "__debug__") && !(x == "__classdict__")
def visB (c : Sc) (n : Nat) (x : Str) : Bool := decide (c.N[n]? = some x) && visK (c.sc.names.lookup x) && okN x
def locB (c : Sc) (n : Nat) (x : Str) : Bool := decide (c.N[n]? = some x) && (decide (c.sc.names.lookup x = some .local) || (decide (c.sc.names.lookup x = some .cell) && c.fnb x))
def locOnly (c : Sc) (n : Nat) (x : Str) : Bool := decide (c.N[n]? = some x) && decide (c.sc.names.lookup x = some .local)
def plainTest (e : Expr) : Bool := match e with
  | .UnaryOp _ _ _ => false
  | .BoolOp _ _ _ => false
  | .IfExp _ _ _ _ => false
  | .Compare _ _ _ _ => false
  | _ => true
theorem plainTest_ok {e : Expr} {env : Env} (h : plainTest e = true) : ∀ whole, isTrue e env whole = (do let v ← whole; standAt e.pos; holding [v] (truthy v)) := by
  intro whole
  cases e <;> first | rfl | (cases h)
def moB (mo : Mo) (e : Expr) (an : Bool) : Bool := match mo with
  | .v => true
  | .t => plainTest e
  | .n => an
def plainIx (b : Expr) : Bool := match b with
  | .Slice _ _ _ _ => false
  | _ => true
theorem plainIx_ok {b : Expr} (h : plainIx b = true) : PlainIx b := by
  intro o i
  cases b <;> first | rfl | (cases h)
def notSet (e : Expr) : Bool := match e with
  | .Set _ _ _ => false
  | _ => true
theorem notSet_ok {e : Expr} {env : Env} (h : notSet e = true) : ∀ x, foldedSetIterable e env x = pure x := by
  intro x
  cases e <;> first | rfl | (cases h)
def constB (d : D) (k : Const) : Bool := match d, k with
  | .int n, .int m => n == m
  | .str x, .str y => x == y
  | .bl a, .bool b => a == b
  | .non, .none => true
  | _, _ => false
def blkSc (c : Sc) (scope : Scope) : Sc := ⟨c.N, relS scope c.sc, fun x => scope.names.lookup x == some .cell⟩
def ownOf (c : Sc) (ow : List Nat) : List (Str × Nat) := ow.map fun i => (c.N.getD i Str.empty, i)
def blkB (c : Sc) (scope : Scope) (ow : List Nat) : Bool :=
  decide (scope.kind = .function) && scope.names.all (fun y => decide (scope.names.lookup y.1 = some y.2)) && ow.all (fun i => decide (i < c.N.length)) &&
  scope.names.all (fun y => !decide (y.2 = .free) || decide (c.sc.names.lookup y.1 = some .cell) || decide (c.sc.names.lookup y.1 = some .free)) &&
  scope.names.all fun y => !(decide (y.2 = .local) || decide (y.2 = .cell)) || decide (y.1 ∈ (ownOf c ow).map (·.1)) || !decide (y.1 ∈ c.N)
def subB (a b : List Nat) : Bool := a.all fun n => decide (n ∈ b)
mutual
def chkG (c : Sc) : T → Expr → Bool
  | .s i, e => match e with
    | .Name x _ => locB c i x
    | _ => false
  | .t ts, e => match e with
    | .Tuple es _ _ => chkGs c ts es
    | _ => false
def chkGs (c : Sc) : List T → List Expr → Bool
  | [], es => match es with
    | [] => true
    | _ => false
  | t :: ts, es => match es with
    | e :: es => noStar e && chkG c t e && chkGs c ts es
    | [] => false
end
def typB (pn : Pn) (c : Sc) (t : Str) (e : Expr) : Bool := match e with
  | .Name x _ => x == t && gloB c x && okN x && (decide (x ∈ (["str", "int", "bool", "list", "tuple", "dict"] : List Str)) || decide (x ∈ pn.cls.map (·.1)))
  | _ => false
def typsB (pn : Pn) (c : Sc) : List Str → List Expr → Bool
  | [], [] => true
  | t :: ts, e :: es => noStar e && typB pn c t e && typsB pn c ts es
  | _, _ => false
mutual
def chkE (pn : Pn) : Sc → Mo → E → Expr → Bool
  | c, mo, .k d, e => match e with
    | .Constant k _ _ => constB d k && moB mo e false
    | _ => false
  | c, mo, .gl x d, e => match e with
    | .Name y _ => x == y && gloB c x && decide (pn.consts x = some d) && okN x && moB mo e false
    | _ => false
  | c, mo, .v i, e => match e with
    | .Name x _ => visB c i x && moB mo e false
    | _ => false
  | c, mo, .bi f as, e => match e with
    | .BinOp a op b _ => binB f op && chkAs pn c as [a, b] && moB mo e false
    | .Compare a [op] [b] _ => cmpB f op && chkAs pn c as [a, b] && !behindInMarks op b && !decide (mo = .n)
    | .Subscript a (.Slice none none (some (.UnaryOp .USub (.Constant (.int 1) _ _) _)) _) _ => decide (f = .rev) && chkAs pn c as [a] && moB mo e true
    | .Subscript a b _ => decide (f = .idx) && chkAs pn c as [a, b] && plainIx b && moB mo e false
    | .UnaryOp .USub a _ => decide (f = .neg) && chkAs pn c as [a] && decide (mo = .v)
    | .Call (.Name x _) es [] _ => if f = .lset then (match es with
        | [.Call (.Name y _) [a] [] _] => x == "len" && y == "set" && gloB c x && gloB c y && chkAs pn c as [a] && decide (mo = .v)
        | _ => false)
      else decide (x ∈ blts) && gloB c x && chkAs pn c as es && decide (es ≠ []) && (match mo with | .v => calB f x | .t => calB f x | .n => calN f x)
    | _ => false
  | c, mo, .and es, e => match e with
    | .BoolOp .And xs _ => decide (xs ≠ []) && chkL pn c (match mo with | .t => .t | _ => .v) es xs && !decide (mo = .n)
    | _ => false
  | c, mo, .or es, e => match e with
    | .BoolOp .Or xs _ => decide (xs ≠ []) && chkL pn c (match mo with | .t => .t | _ => .v) es xs && !decide (mo = .n)
    | _ => false
  | c, mo, .not a, e => match e with
    | .UnaryOp .Not x _ => chkE pn c (match mo with | .t => .t | _ => .v) a x && !decide (mo = .n)
    | _ => false
  | c, mo, .ife t a b, e => match e with
    | .IfExp x y z _ => chkE pn c .t t x && chkE pn c .v a y && chkE pn c .v b z && decide (mo = .v)
    | _ => false
  | c, mo, .tup es, e => match e with
    | .Tuple xs _ _ => chkEs pn c es xs && decide (es.length ≤ 1000) && decide (mo = .v)
    | _ => false
  | c, mo, .lst es, e => match e with
    | .List xs _ => chkEs pn c es xs && decide (es.length ≤ 1000) && !decide (mo = .t)
    | _ => false
  | _, _, .dct _, _ => false
  | c, mo, .chain f g a b d, e => match e with
    | .Compare x [op, op'] [y, z] _ => cmpB f op && cmpB g op' && chkE pn c .v a x && chkE pn c .v b y && chkE pn c .v d z && !lastMarks [op, op'] [y, z] && !decide (mo = .n)
    | _ => false
  | c, mo, .att a f, e => match e with
    | .Attribute (.Name x p) g _ => f == g && decide (f ∈ pn.fl) && chkA pn c a (.Name x p) && moB mo e false
    | _ => false
  | c, mo, .isi tu a ts, e => match e with
    | .Call (.Name x _) [y, z] [] _ => x == "isinstance" && gloB c x && noStar y && chkA pn c a y && moB mo e false && (match tu, ts, z with
      | false, [t], z => typB pn c t z
      | true, ts, .Tuple zs _ _ => decide (zs.length ≤ 1000) && decide (ts ≠ []) && typsB pn c ts zs
      | _, _, _ => false)
    | _ => false
  | c, mo, .call f es, e => match e with
    | .Call (.Name x _) xs [] _ => gloB c x && okN x && decide (xs ≠ []) && chkEs pn c es xs && (match pn.defs x with
      | some (f', np, nw) => decide (f = f') && decide (es.length = np) && moB mo e nw
      | none => false)
    | _ => false
  | c, mo, .mk k es, e => match e with
    | .Call (.Name x _) xs [] _ => x == k && gloB c x && okN x && decide (xs ≠ []) && chkEs pn c es xs && decide (mo = .v) && (match pn.cls.lookup x with
      | some (_, np) => decide (es.length + 1 = np)
      | none => false)
    | _ => false
  | _, _, .meth _ _ _, _ => false
  | c, mo, .lc ow el t i cs, e => match e with
    | .ListComp elt [⟨tg, iter, ifs, 0⟩] scope _ => chkI pn c i tg iter && blkB c scope ow && chkG (blkSc c scope) t tg && chkLs pn (blkSc c scope) cs ifs && chkE pn (blkSc c scope) .v el elt && subB t.sl ow && notSet iter && !decide (mo = .t)
    | _ => false
  | _, _, .lc2 _ _ _ _ _ _ _ _, _ => false
  | _, _, .dc _ _ _ _ _ _, _ => false
  | c, mo, .s00 a, e => match e with
    | .Subscript x (.Slice none none none _) _ => chkA pn c a x && moB mo e true
    | _ => false
  | c, mo, .s10 a b, e => match e with
    | .Subscript x (.Slice (some y) none none _) _ => chkA pn c a x && chkE pn c .v b y && moB mo e true
    | _ => false
  | c, mo, .s01 a b, e => match e with
    | .Subscript x (.Slice none (some y) none _) _ => chkA pn c a x && chkE pn c .v b y && moB mo e true
    | _ => false
  | c, mo, .s11 a b d, e => match e with
    | .Subscript x (.Slice (some y) (some z) none _) _ => chkA pn c a x && chkE pn c .v b y && chkE pn c .v d z && moB mo e true
    | _ => false
  | c, mo, .pop i, e => match e with
    | .Call (.Attribute (.Name x _) m apos) [] [] cpos => m == "pop" && visB c i x && (apos.endLine == cpos.line) && decide (mo = .v)
    | _ => false
  | c, mo, .popA i k, e => match e with
    | .Call (.Attribute (.Name x _) m apos) [y] [] cpos => m == "pop" && visB c i x && (apos.endLine == cpos.line) && noStar y && chkE pn c .v k y && decide (mo = .v)
    | _ => false
def chkA (pn : Pn) : Sc → A → Expr → Bool
  | c, .e m, e => chkE pn c .v m e
  | c, .b i, e => match e with
    | .Name x _ => visB c i x
    | _ => false
def chkAs (pn : Pn) : Sc → List A → List Expr → Bool
  | _, [], es => match es with
    | [] => true
    | _ => false
  | c, a :: as, es => match es with
    | e :: es => noStar e && chkA pn c a e && chkAs pn c as es
    | [] => false
def chkEs (pn : Pn) : Sc → List E → List Expr → Bool
  | _, [], es => match es with
    | [] => true
    | _ => false
  | c, a :: as, es => match es with
    | e :: es => noStar e && chkE pn c .v a e && chkEs pn c as es
    | [] => false
/-- the parts of an and, an or -/
def chkL (pn : Pn) : Sc → Mo → List E → List Expr → Bool
  | _, _, [], es => match es with
    | [] => true
    | _ => false
  | c, mo, a :: as, es => match es with
    | e :: es => chkE pn c mo a e && chkL pn c mo as es
    | [] => false
/-- a clause's tests: none or one -/
def chkLs (pn : Pn) : Sc → List E → List Expr → Bool
  | _, [], es => match es with
    | [] => true
    | _ => false
  | c, a :: as, es => match as, es with
    | [], [e] => chkE pn c .t a e
    | _, _ => false
def chkI (pn : Pn) : Sc → I → Expr → Expr → Bool
  | c, .seq m, _, e => chkE pn c .v m e
  | c, .enum m, tg, e => match tg, e with
    | .Tuple _ _ _, .Call (.Name x _) [y] [] _ => x == "enumerate" && gloB c x && noStar y && chkE pn c .v m y
    | _, _ => false
  | c, .zip m n, tg, e => match tg, e with
    | .Tuple _ _ _, .Call (.Name x _) [y, z] [] _ => x == "zip" && gloB c x && noStar y && noStar z && chkE pn c .v m y && chkE pn c .v n z
    | _, _ => false
  | c, .rng m, _, e => match e with
    | .Call (.Name x _) [y] [] _ => x == "range" && gloB c x && noStar y && chkE pn c .v m y
    | _ => false
  | c, .rng2 m n, _, e => match e with
    | .Call (.Name x _) [y, z] [] _ => x == "range" && gloB c x && noStar y && noStar z && chkE pn c .v m y && chkE pn c .v n z
    | _ => false
  | _, .items _, _, _ => false
  | _, .vals _, _, _ => false
end

def swB (c : Sc) (e : Expr) (x : Str) (p : Pos) : Bool := match e with
  | .ListComp _ _ s lp => decide (c.sc.names.lookup x = some .local) && (p.line == lp.line) && !(s.names.any fun (n, k) => n == x && (k == .local || k == .cell))
  | _ => false
def compB (e : Expr) : Bool := match e with
  | .SetComp _ _ _ _ => true
  | .DictComp _ _ _ _ _ => true
  | _ => false
def augB (f : Bi) : Operator → Bool
  | .Add => f == .add
  | .BitAnd => f == .band
  | .BitXor => f == .bxor
  | _ => false
def noTup (e : Expr) : Bool := match e with
  | .Tuple _ _ _ => false
  | _ => true
def isKi (kd : Kd) : Bool := match kd with
  | .new => true
  | _ => false
mutual
def chkS (pn : Pn) (c : Sc) (kd : Kd) : S → Stmt → Bool
  | .pass, st => match st with
    | .Pass _ => true
    | _ => false
  | .ex m, st => match st with
    | .Expr e _ => noComp e && chkE pn c .v m e
    | _ => false
  | .ret m, st => match st with
    | .Return (some e) _ => !isKi kd && chkE pn c .v m e
    | _ => false
  | .retN, st => match st with
    | .Return none _ => !isKi kd
    | _ => false
  | .retF m, st => match st with
    | .Return (some e) _ => isKi kd && chkE pn c .n m e
    | _ => false
  | .retO i, st => match st with
    | .Return (some (.Name x _)) _ => isKi kd && visB c i x
    | _ => false
  | .set i m, st => match st with
    | .Assign [.Name x p] e _ => locB c i x && !compB e && chkE pn c .v m e && (!swB c e x p || locOnly c i x)
    | _ => false
  | .setO i m, st => match st with
    | .Assign [.Name x p] e _ => locB c i x && !compB e && chkE pn c .n m e && (!swB c e x p || locOnly c i x)
    | _ => false
  | .setT t m, st => match st with
    | .Assign [tg] e _ => !noTup tg && noTup e && !compB e && chkG c t tg && chkE pn c .v m e
    | _ => false
  | .par _ _ _ _, _ => false
  | .box i m, st => match st with
    | .Assign [.Name x p] e _ => locB c i x && !compB e && chkE pn c .n m e && !swB c e x p
    | _ => false
  | .app i m, st => match st with
    | .Expr (.Call (.Attribute (.Name x _) f apos) [y] [] cpos) _ => f == "append" && visB c i x && (apos.endLine == cpos.line) && noStar y && chkE pn c .v m y
    | _ => false
  | .ext i m, st => match st with
    | .Expr (.Call (.Attribute (.Name x _) f apos) [y] [] cpos) _ => f == "extend" && visB c i x && (apos.endLine == cpos.line) && noStar y && chkE pn c .n m y
    | _ => false
  | .extB i j, st => match st with
    | .Expr (.Call (.Attribute (.Name x _) f apos) [.Name y _] [] cpos) _ => f == "extend" && visB c i x && visB c j y && (apos.endLine == cpos.line)
    | _ => false
  | .revs i, st => match st with
    | .Expr (.Call (.Attribute (.Name x _) f apos) [] [] cpos) _ => f == "reverse" && visB c i x && (apos.endLine == cpos.line)
    | _ => false
  | .clr i, st => match st with
    | .Expr (.Call (.Attribute (.Name x _) f apos) [] [] cpos) _ => f == "clear" && visB c i x && (apos.endLine == cpos.line)
    | _ => false
  | .setK i k m, st => match st with
    | .Assign [.Subscript (.Name x _) ek _] e _ => visB c i x && plainIx ek && chkE pn c .v k ek && chkE pn c .v m e && noComp e
    | _ => false
  | .setL i k m, st => match st with
    | .Assign [.Subscript (.Name x _) ek _] e _ => visB c i x && plainIx ek && chkE pn c .v k ek && chkE pn c .v m e && noComp e
    | _ => false
  | .upd _ _, _ => false
  | .aug i f m, st => match st with
    | .AugAssign (.Name x _) op e _ => augB f op && locB c i x && chkE pn c .v m e
    | _ => false
  | .fld i f m, st => match st with
    | .Assign [.Attribute (.Name x _) g _] e _ => f == g && decide (f ∈ pn.fl) && visB c i x && chkE pn c .v m e && noComp e
    | _ => false
  | .ite m a b, st => match st with
    | .If e x y _ => chkE pn c .t m e && chkSs pn c kd a x && chkSs pn c kd b y
    | _ => false
  | .for t i b, st => match st with
    | .For tg it x [] _ => chkI pn c i tg it && chkG c t tg && chkSs pn c kd b x && notSet it
    | _ => false
  | .while m b, st => match st with
    | .While e x [] _ => chkE pn c .t m e && chkSs pn c kd b x
    | _ => false
  | .raise _ _, st => match st with
    | .Raise _ _ _ => true
    | _ => false
  | .fr _ s, st => chkS pn c kd s st
def chkSs (pn : Pn) (c : Sc) (kd : Kd) : List S → List Stmt → Bool
  | [], ss => match ss with
    | [] => true
    | _ => false
  | s :: ss, sts => match sts with
    | st :: sts => chkS pn c kd s st && chkSs pn c kd ss sts
    | [] => false
end
/-- a def's text -/
def chkFd (pn : Pn) (f : Fd) (sc : Scope) (body : List Stmt) : Bool := chkSs pn ⟨f.ns, sc, fun _ => true⟩ f.kd f.body body
end Mi
end
section
set_option maxRecDepth 100000
/-! Mi: the check is sound. -/
namespace Mi
open PySem L2
/-- a context as the check sees it -/
structure Fit (X : Cx) (Γ : Glo) (pn : Pn) (c : Sc) (C : Nat → List D → List D → CO) (ini : Str → Option Nat) : Prop where
  N : X.N = c.N
  nd : X.N.Nodup
  sc : X.env.scope = c.sc
  kind : X.env.scope.kind = .function
  fn : ∀ x, c.fnb x = true → X.fn x = true
  calm : X.calm = true
  K : X.K = Γ.K
  hu : X.A.units + 70 < cLine
  blt : ∀ x ∈ blts, X.mg x = none
  defs : ∀ x f np nw, pn.defs x = some (f, np, nw) → ∃ fa fd ps k kd, X.mg x = some (.ref fa) ∧ PySem.W.keepIn X.K (.ref fa) = true ∧ Binds X.K fd ps [] ∧ Room k X.A ∧ FnOk X.prog X.w X.K X.mg X.base CX0 k fa fd ps (spM Γ kd np (C f)) ∧ (nw = true → kd = .new)
  cls : ∀ x, x ∈ pn.cls.map (·.1) → ∃ Cc, Γ.cA x = some Cc ∧ X.mg x = some (.ref Cc) ∧ ∀ n ∈ (["str", "int", "bool", "list", "tuple", "dict"] : List String), x ≠ Str.ofString n
  mks : ∀ x f np, pn.cls.lookup x = some (f, np) → ∃ Cc fa fd ps k, ini x = some f ∧ Γ.cA x = some Cc ∧ X.mg x = some (.ref Cc) ∧ Mk X.K Cc fa ∧ Binds X.K fd ps [] ∧ Room (k + 1) X.A ∧ FnOk X.prog X.w X.K X.mg X.base CX0 k fa fd ps (spI Γ x np (C f))
  consts : ∀ x d, pn.consts x = some d → ∃ v u, X.mg x = some u ∧ RelV v u ∧ ∀ Hm i, Rep Γ Hm i v d
  gk : GOk Γ pn.fl
section
variable {X : Cx} {Γ : Glo} {pn : Pn} {c : Sc} {C : Nat → List D → List D → CO} {ini : Str → Option Nat}
theorem Fit.gl (h : Fit X Γ pn c C ini) {x : Str} (g : gloB c x = true) : Gl X x := by
  unfold Gl Env.kindOf
  rw [h.sc]
  exact of_decide_eq_true g
theorem okN_1 {x : Str} (h : okN x = true) : (x == ("__debug__" : Str)) = false ∧ (x == ("__classdict__" : Str)) = false := by
  unfold okN at h
  simpa only [Bool.and_eq_true, Bool.not_eq_true'] using h
theorem Fit.vis (h : Fit X Γ pn c C ini) {n : Nat} {x : Str} (g : visB c n x = true) : X.N[n]? = some x ∧ Vis X.env.scope x ∧ (x == ("__debug__" : Str)) = false ∧ (x == ("__classdict__" : Str)) = false := by
  unfold visB at g
  simp only [Bool.and_eq_true, decide_eq_true_eq] at g
  obtain ⟨⟨g1, g2⟩, g3⟩ := g
  refine ⟨by rw [h.N]; exact g1, ?_, okN_1 g3⟩
  unfold Vis
  rw [h.sc]
  cases e : c.sc.names.lookup x with
  | none => rw [e] at g2; cases g2
  | some k => rw [e] at g2; cases k <;> simp_all [visK]
theorem Fit.loc (h : Fit X Γ pn c C ini) {n : Nat} {x : Str} (g : locB c n x = true) : X.N[n]? = some x ∧ Loc X.env.scope x ∧ (X.fn x = true ∨ X.env.scope.names.lookup x = some .local) := by
  unfold locB at g
  simp only [Bool.and_eq_true, Bool.or_eq_true, decide_eq_true_eq] at g
  obtain ⟨g1, g2⟩ := g
  refine ⟨by rw [h.N]; exact g1, ?_⟩
  unfold L2.Loc
  rw [h.sc]
  rcases g2 with g2 | ⟨g2, g3⟩
  · exact ⟨.inl g2, .inr g2⟩
  · exact ⟨.inr g2, .inl (h.fn x g3)⟩
theorem Fit.blkOk (h : Fit X Γ pn c C ini) {scope : Scope} {ow : List Nat} (g : blkB c scope ow = true) : BlkOk X.N X.env.scope scope (ownOf c ow) := by
  unfold blkB at g
  simp only [Bool.and_eq_true, decide_eq_true_eq, List.all_eq_true] at g
  obtain ⟨⟨⟨⟨g1, g2⟩, g3⟩, g4⟩, g5⟩ := g
  refine ⟨g1, g2, fun p hp => ?_, fun y hy e => ?_, fun y hy e => ?_⟩
  · unfold ownOf at hp
    obtain ⟨i, hi, rfl⟩ := List.mem_map.mp hp
    have hl := g3 i hi
    rw [h.N]
    show c.N[i]? = some (c.N.getD i Str.empty)
    rw [List.getD_eq_getElem?_getD]
    simp [hl]
  · have z := g4 y hy
    rw [h.sc]
    simp only [Bool.or_eq_true, Bool.not_eq_true', decide_eq_true_eq, decide_eq_false_iff_not] at z
    rcases z with (z | z) | z
    · exact absurd e z
    · exact .inl z
    · exact .inr z
  · have z := g5 y hy
    rw [h.N]
    simp only [Bool.or_eq_true, Bool.not_eq_true', decide_eq_true_eq, decide_eq_false_iff_not, Bool.or_eq_false_iff] at z
    rcases z with (z | z) | z
    · rcases e with e | e
      · exact absurd e z.1
      · exact absurd e z.2
    · exact .inl z
    · exact .inr z
theorem ownOf_snd (c : Sc) (ow : List Nat) : (ownOf c ow).map (·.2) = ow := by
  unfold ownOf
  rw [List.map_map]
  exact List.map_id _
theorem Fit.blk (h : Fit X Γ pn c C ini) {scope : Scope} {ow : List Nat} (g : blkB c scope ow = true) (s : Shared) (H : Hp) (B : Addr) (cl : List (Str × Addr)) (fp : List Addr) : Fit (X.blk s H scope (compEnvC scope cl B X.env) fp) Γ pn (blkSc c scope) C ini where
  N := h.N
  nd := h.nd
  sc := by show relS scope X.env.scope = relS scope c.sc; rw [h.sc]
  kind := (h.blkOk g).kind
  fn := fun x hx => hx
  calm := h.calm
  K := h.K
  hu := h.hu
  blt := h.blt
  defs := h.defs
  cls := h.cls
  mks := h.mks
  consts := h.consts
  gk := h.gk
/-- what the check says of an expression -/
def Jd (X : Cx) (Γ : Glo) (C : Nat → List D → List D → CO) (ini : Str → Option Nat) (e : Expr) (m : E) : Mo → Prop
  | .v => PE X e (TM Γ KEF (evE C ini m))
  | .t => PT X e (TB Γ KEF (evT (evE C ini m)))
  | .n => PE X e (TN Γ KEF (evE C ini m))
theorem jv {e : Expr} {m : E} {mo : Mo} (h : PE X e (TM Γ KEF (evE C ini m))) (b : moB mo e false = true) : Jd X Γ C ini e m mo := by
  cases mo with
  | v => exact h
  | t => exact t_val h (plainTest_ok b)
  | n => cases b
theorem jvn {e : Expr} {m : E} {mo : Mo} {an : Bool} (h : PE X e (TM Γ KEF (evE C ini m))) (hn : an = true → PE X e (TN Γ KEF (evE C ini m))) (b : moB mo e an = true) : Jd X Γ C ini e m mo := by
  cases mo with
  | v => exact h
  | t => exact t_val h (plainTest_ok b)
  | n => exact hn b
theorem Fit.cv (h : Fit X Γ pn c C ini) {t : Str} {e : Expr} (g : typB pn c t e = true) : ∃ v u, ClsN Γ t v u ∧ PE X e (tC v) := by
  unfold typB at g
  split at g
  · rename_i x p
    simp only [Bool.and_eq_true, Bool.or_eq_true, beq_iff_eq, decide_eq_true_eq] at g
    obtain ⟨⟨⟨rfl, g2⟩, g3⟩, g4⟩ := g
    obtain ⟨k1, k2⟩ := okN_1 g3
    rcases g4 with g4 | g4
    · have hm : X.mg x = none := h.blt x (by
        unfold blts
        simp only [List.mem_cons, List.not_mem_nil, or_false] at g4 ⊢
        rcases g4 with r | r | r | r | r | r <;> (subst r; simp))
      have hb := (nm_ne (x := x) (by
        unfold blts
        simp only [List.mem_cons, List.not_mem_nil, or_false] at g4 ⊢
        rcases g4 with r | r | r | r | r | r <;> (subst r; simp))).1
      simp only [List.mem_cons, List.not_mem_nil, or_false] at g4
      rcases g4 with r | r | r | r | r | r
      · subst r; exact ⟨.ty "str", .type "str", ⟨.inl ⟨"str", rfl, by simp, rfl, rfl⟩⟩, pe_bltn (h.gl g2) hm (by decide +kernel) rfl hb k1⟩
      · subst r; exact ⟨.ty "int", .type "int", ⟨.inl ⟨"int", rfl, by simp, rfl, rfl⟩⟩, pe_bltn (h.gl g2) hm (by decide +kernel) rfl hb k1⟩
      · subst r; exact ⟨.ty "bool", .type "bool", ⟨.inl ⟨"bool", rfl, by simp, rfl, rfl⟩⟩, pe_bltn (h.gl g2) hm (by decide +kernel) rfl hb k1⟩
      · subst r; exact ⟨.ty "list", .type "list", ⟨.inl ⟨"list", rfl, by simp, rfl, rfl⟩⟩, pe_bltn (h.gl g2) hm (by decide +kernel) rfl hb k1⟩
      · subst r; exact ⟨.ty "tuple", .type "tuple", ⟨.inl ⟨"tuple", rfl, by simp, rfl, rfl⟩⟩, pe_bltn (h.gl g2) hm (by decide +kernel) rfl hb k1⟩
      · subst r; exact ⟨.ty "dict", .type "dict", ⟨.inl ⟨"dict", rfl, by simp, rfl, rfl⟩⟩, pe_bltn (h.gl g2) hm (by decide +kernel) rfl hb k1⟩
    · obtain ⟨Cc, c1, c2, c3⟩ := h.cls x g4
      exact ⟨.ref Cc, .ref Cc, ⟨.inr ⟨Cc, c1, rfl, rfl, c3⟩⟩, pe_glob (h.gl g2) c2 rfl k1⟩
  · cases g
theorem Fit.cvs (h : Fit X Γ pn c C ini) : ∀ {ts : List Str} {es : List Expr}, typsB pn c ts es = true → ∃ (tc : L2.TA) (cs : List V) (us : List Value), Paired (fun t u => ∃ v, ClsN Γ t v u) ts us ∧ Paired ClsV cs us ∧ cs.length = es.length ∧ (∀ σ H Q, Q cs H → tc σ H Q) ∧ PA X es tc
  | [], [], _ => ⟨tNil, [], [], .nil, .nil, rfl, fun _ _ _ q => q, pa_nil⟩
  | t :: ts, e :: es, g => by
    simp only [typsB, Bool.and_eq_true] at g
    obtain ⟨v, u, k1, k2⟩ := h.cv g.1.2
    obtain ⟨tc, cs, us, p1, p2, p3, p4, p5⟩ := h.cvs g.2
    exact ⟨tCons (tC v) tc, v :: cs, u :: us, .cons ⟨v, k1⟩ p1, .cons k1.v p2, by simp [p3], fun σ H Q q => p4 σ H _ q, pa_cons k2 p5 (star_cons g.1.1)⟩
  | [], _ :: _, g => by cases g
  | _ :: _, [], g => by cases g
mutual
theorem Fit.g (h : Fit X Γ pn c C ini) : ∀ (t : T) (e : Expr), chkG c t e = true → PG X e (TGm Γ t)
  | .s i, e, g => by
    unfold chkG at g
    split at g
    · obtain ⟨a, b, d⟩ := h.loc g
      exact g_name h.nd a b d
    · cases g
  | .t ts, e, g => by
    unfold chkG at g
    split at g
    · rename_i es k p
      obtain ⟨a, b, d⟩ := Fit.gs h ts es g
      exact g_tup h.calm h.K a b d
    · cases g
theorem Fit.gs (h : Fit X Γ pn c C ini) : ∀ (ts : List T) (es : List Expr), chkGs c ts es = true → PGs X es (TGsm Γ ts) ∧ (assignEach es X.env).length = ts.length ∧ (assignEach es X.env).findIdx? (·.1) = none
  | [], es, g => by
    cases es with
    | nil => exact ⟨gs_nil, rfl, rfl⟩
    | cons _ _ => cases g
  | t :: ts, es, g => by
    cases es with
    | nil => cases g
    | cons e es =>
      simp only [chkGs, Bool.and_eq_true] at g
      obtain ⟨a, b, d⟩ := Fit.gs h ts es g.2
      refine ⟨gs_cons (Fit.g h t e g.1.2) a g.1.1, ?_, ?_⟩
      · rw [assignEach_cons g.1.1]; simp [b]
      · rw [assignEach_cons g.1.1, List.findIdx?_cons]
        simp [d]
end
end
end Mi
end
section
set_option maxRecDepth 100000
/-! Mi: the check is sound: expressions. -/
namespace Mi
open PySem L2
variable {Γ : Glo} {pn : Pn} {C : Nat → List D → List D → CO} {ini : Str → Option Nat}
theorem o_ix {X : Cx} (hK : X.K = Γ.K) : IxR X (rIx Γ.K) := hK ▸ ix_seq
/-- a comprehension's parts, as the check finds them -/
theorem e_neg {X : Cx} {KE : KEt} {e : Expr} {pos : Pos} {ma : A} (h : PE X e (TO Γ KE (evA C ini ma))) : PE X (.UnaryOp .USub e pos) (TM Γ KE (evE C ini (.bi .neg [ma]))) := by
  refine pe_weak (pe_un un_neg h) ?_
  rintro σ H Q ⟨G, Hm, i, r, m, x, h⟩
  rw [ev_bi1] at h
  refine ⟨G, Hm, i, r, m, x, h.bind.imp fun o r1 m1 Hm1 i1 H1 _ x1 h1 v rv => ?_⟩
  cases e : opsD r1 [o] with
  | none => rw [e] at h1; exact h1.elim
  | some ds =>
    obtain ⟨a', rfl, ea⟩ := one e
    rw [e] at h1
    have h1 : After Γ G σ KE Hm1 i1 (lift (b_neg m1 [a']) r1 m1) _ := h1
    cases a' <;> first | exact h1.elim | skip
    rename_i n _
    exact ⟨n, (rv.look x1 ea).int, h1.here x1 _ (.int _)⟩
/-- len(set(a)): to be read elsewhere -/
def HSet (Γ : Glo) (pn : Pn) (C : Nat → List D → List D → CO) (ini : Str → Option Nat) : Prop := ∀ {X : Cx} {c : Sc} {p p2 q pos : Pos} {a : Expr} {ma : A}, Fit X Γ pn c C ini → Gl X "len" → Gl X "set" → noStar a = true → PE X a (TO Γ KEF (evA C ini ma)) →
  PE X (.Call (.Name "len" p) [.Call (.Name "set" p2) [a] [] q] [] pos) (TM Γ KEF (evE C ini (.bi .lset [ma])))
section
variable (hS : HSet Γ pn C ini)
include hS
mutual
theorem sE : ∀ (me : E) (X : Cx) (c : Sc) (mo : Mo) (e : Expr), Fit X Γ pn c C ini → chkE pn c mo me e = true → Jd X Γ C ini e me mo
  | .k d, X, c, mo, e, h, g => by
    unfold chkE at g
    split at g
    · rename_i k j p
      simp only [Bool.and_eq_true] at g
      refine jv ?_ g.2
      have g := g.1
      unfold constB at g
      split at g
      · simp only [beq_iff_eq] at g; subst g; exact e_int
      · simp only [beq_iff_eq] at g; subst g; exact e_str
      · simp only [beq_iff_eq] at g; subst g; exact e_bl
      · exact e_non
      · cases g
    · cases g
  | .gl x d, X, c, mo, e, h, g => by
    unfold chkE at g
    split at g
    · simp only [Bool.and_eq_true, beq_iff_eq, decide_eq_true_eq] at g
      obtain ⟨⟨⟨⟨g1, g2⟩, g3⟩, g4⟩, g5⟩ := g
      subst g1
      obtain ⟨v, u, c1, c2, c3⟩ := h.consts x d g3
      exact jv (e_gl (h.gl g2) c1 c2 c3 (okN_1 g4).1) g5
    · cases g
  | .v i, X, c, mo, e, h, g => by
    unfold chkE at g
    split at g
    · simp only [Bool.and_eq_true] at g
      obtain ⟨a, b, d1, d2⟩ := h.vis g.1
      exact jv (e_v a b d1 d2) g.2
    · cases g
  | .bi f as, X, c, mo, e, h, g => by
    unfold chkE at g
    split at g
    · rename_i a op b p
      simp only [Bool.and_eq_true] at g
      obtain ⟨r, o1, o2⟩ := bin_ok h.K g.1.1
      match as, sAs as X c [a, b] h g.1.2 with
      | [], z => exact z.elim
      | [m1], z => exact z.2.elim
      | [m1, m2], z => exact jv (e_bin o1 o2 z.1 z.2.1) g.2
      | m1 :: m2 :: _ :: _, z => exact z.2.2.elim
    · rename_i a op b p
      simp only [Bool.and_eq_true, Bool.not_eq_true'] at g
      obtain ⟨r, o1, o2⟩ := cmp_ok h.K h.hu g.1.1.1
      match as, sAs as X c [a, b] h g.1.1.2 with
      | [], z => exact z.elim
      | [m1], z => exact z.2.elim
      | [m1, m2], z =>
        cases mo with
        | v => exact e_cmp o1 o2 z.1 z.2.1 g.1.2
        | t => exact t_cmp o1 o2 z.1 z.2.1 g.1.2
        | n => exact absurd g.2 (by simp)
      | m1 :: m2 :: _ :: _, z => exact z.2.2.elim
    · rename_i a k p1 p2 p3 p4
      simp only [Bool.and_eq_true, decide_eq_true_eq] at g
      obtain ⟨⟨rfl, g2⟩, g3⟩ := g
      match as, sAs as X c [a] h g2 with
      | [], z => exact z.elim
      | [m1], z => exact jvn (pe_weak (pe_revL z.1) (tm_rev h.K)) (fun _ => pe_weak (pe_revL z.1) (tn_rev h.K)) g3
      | m1 :: _ :: _, z => exact z.2.elim
    · rename_i a b p _
      simp only [Bool.and_eq_true, decide_eq_true_eq] at g
      obtain ⟨⟨⟨rfl, g2⟩, g3⟩, g4⟩ := g
      match as, sAs as X c [a, b] h g2 with
      | [], z => exact z.elim
      | [m1], z => exact z.2.elim
      | [m1, m2], z => exact jv (e_ix (o_ix h.K) rd_idx z.1 z.2.1 (plainIx_ok g3)) g4
      | m1 :: m2 :: _ :: _, z => exact z.2.2.elim
    · rename_i a p
      simp only [Bool.and_eq_true, decide_eq_true_eq] at g
      obtain ⟨⟨rfl, g2⟩, rfl⟩ := g
      match as, sAs as X c [a] h g2 with
      | [], z => exact z.elim
      | [m1], z => exact e_neg z.1
      | m1 :: _ :: _, z => exact z.2.elim
    · rename_i x p es q
      split at g
      · subst f
        split at g
        · rename_i y p2 a p3
          simp only [Bool.and_eq_true, decide_eq_true_eq, beq_iff_eq] at g
          obtain ⟨⟨⟨⟨⟨rfl, rfl⟩, g3⟩, g4⟩, g5⟩, rfl⟩ := g
          have ns : noStar a = true := by
            cases as with
            | nil => simp [chkAs] at g5
            | cons _ _ => simp only [chkAs, Bool.and_eq_true] at g5; exact g5.1.1
          match as, sAs as X c [a] h g5 with
          | [], z => exact z.elim
          | [m1], z => exact hS h (h.gl g3) (h.gl g4) ns z.1
          | m1 :: _ :: _, z => exact z.2.elim
        · cases g
      · simp only [Bool.and_eq_true, decide_eq_true_eq] at g
        obtain ⟨⟨⟨⟨g1, g2⟩, g3⟩, g4⟩, g5⟩ := g
        obtain ⟨z1, z2⟩ := sAo as X c es h g3
        cases es with
        | nil => exact absurd rfl g4
        | cons e0 es =>
          cases mo with
          | v => exact cal_ok h.K h.hu h.calm g5 (h.gl g2) (h.blt x g1) z1 z2
          | t => exact t_val (cal_ok h.K h.hu h.calm g5 (h.gl g2) (h.blt x g1) z1 z2) (plainTest_ok rfl)
          | n => exact calN_ok h.K h.hu h.calm g5 (h.gl g2) (h.blt x g1) z1 z2
    · cases g
  | .and es, X, c, mo, e, h, g => by
    unfold chkE at g
    split at g
    · rename_i xs p
      simp only [Bool.and_eq_true, Bool.not_eq_true', decide_eq_true_eq, decide_eq_false_iff_not] at g
      obtain ⟨⟨g1, g2⟩, g3⟩ := g
      cases mo with
      | v => exact (sL es X c xs p h g1).1 g2
      | t => exact t_and ((sL es X c xs p h g1).2.1 g2)
      | n => exact absurd rfl g3
    · cases g
  | .or es, X, c, mo, e, h, g => by
    unfold chkE at g
    split at g
    · rename_i xs p
      simp only [Bool.and_eq_true, Bool.not_eq_true', decide_eq_true_eq, decide_eq_false_iff_not] at g
      obtain ⟨⟨g1, g2⟩, g3⟩ := g
      cases mo with
      | v => exact (sL es X c xs p h g1).2.2.1 g2
      | t => exact t_or ((sL es X c xs p h g1).2.2.2 g2)
      | n => exact absurd rfl g3
    · cases g
  | .not a, X, c, mo, e, h, g => by
    unfold chkE at g
    split at g
    · simp only [Bool.and_eq_true, Bool.not_eq_true', decide_eq_false_iff_not] at g
      cases mo with
      | v => exact v_not (sE a X c .v _ h g.1)
      | t => exact t_not (sE a X c .t _ h g.1)
      | n => exact absurd rfl g.2
    · cases g
  | .ife t a b, X, c, mo, e, h, g => by
    unfold chkE at g
    split at g
    · simp only [Bool.and_eq_true, decide_eq_true_eq] at g
      obtain ⟨⟨⟨g1, g2⟩, g3⟩, rfl⟩ := g
      exact v_ife (sE t X c .t _ h g1) (sE a X c .v _ h g2) (sE b X c .v _ h g3)
    · cases g
  | .tup es, X, c, mo, e, h, g => by
    unfold chkE at g
    split at g
    · simp only [Bool.and_eq_true, decide_eq_true_eq] at g
      obtain ⟨⟨g1, g2⟩, rfl⟩ := g
      exact e_tup (sEs es X c _ h g1).1 g2
    · cases g
  | .lst es, X, c, mo, e, h, g => by
    unfold chkE at g
    split at g
    · simp only [Bool.and_eq_true, Bool.not_eq_true', decide_eq_true_eq, decide_eq_false_iff_not] at g
      obtain ⟨⟨g1, g2⟩, g3⟩ := g
      cases mo with
      | v => exact e_lst (sEs es X c _ h g1).1 g2
      | t => exact absurd rfl g3
      | n => exact n_lst (sEs es X c _ h g1).1 g2
    · cases g
  | .dct _, X, c, mo, e, h, g => by simp [chkE] at g
  | .chain f f2 a b d, X, c, mo, e, h, g => by
    unfold chkE at g
    split at g
    · simp only [Bool.and_eq_true, Bool.not_eq_true', decide_eq_false_iff_not] at g
      obtain ⟨⟨⟨⟨⟨⟨g1, g2⟩, g3⟩, g4⟩, g5⟩, g6⟩, g7⟩ := g
      obtain ⟨r, o1, o2⟩ := cmp_ok h.K h.hu g1
      obtain ⟨r', q1, q2⟩ := cmp_ok h.K h.hu g2
      cases mo with
      | v => exact e_chain o1 o2 q1 q2 (sE a X c .v _ h g3) (sE b X c .v _ h g4) (sE d X c .v _ h g5) g6
      | t => exact Mi.t_chain o1 o2 q1 q2 (sE a X c .v _ h g3) (sE b X c .v _ h g4) (sE d X c .v _ h g5) g6
      | n => exact absurd rfl g7
    · cases g
  | .att a f, X, c, mo, e, h, g => by
    unfold chkE at g
    split at g
    · simp only [Bool.and_eq_true, beq_iff_eq, decide_eq_true_eq] at g
      obtain ⟨⟨⟨g1, g2⟩, g3⟩, g4⟩ := g
      subst g1
      exact jv (pe_weak (pe_fld (sA a X c _ h g3) rfl) (tm_att h.gk h.K g2)) g4
    · cases g
  | .isi tu a ts, X, c, mo, e, h, g => by
    unfold chkE at g
    split at g
    · rename_i x p y z q
      simp only [Bool.and_eq_true, beq_iff_eq] at g
      obtain ⟨⟨⟨⟨⟨g1, g2⟩, g3⟩, g4⟩, g5⟩, g6⟩ := g
      subst g1
      have hm := h.blt "isinstance" (by decide +kernel)
      have hn := nm_ne (x := "isinstance") (by decide +kernel)
      split at g6
      · rename_i t
        obtain ⟨v, u, k1, k2⟩ := h.cv g6
        have hs : noStar z = true := by
          unfold typB at g6
          split at g6
          · rfl
          · cases g6
        refine jv (pe_weak (pe_callB cr_isM (h.gl g2) hm (by decide +kernel) (pa_cons (sA a X c _ h g4) (pa_cons k2 pa_nil (star_cons hs)) (star_cons g3)) hn.1 hn.2 (star_cons g3) (by rw [star_cons hs]; rfl)) (tm_is1 h.gk h.K k1)) g5
      · rename_i zs kk pp
        simp only [Bool.and_eq_true, decide_eq_true_eq] at g6
        obtain ⟨⟨l1, l2⟩, l3⟩ := g6
        obtain ⟨tc, cs, us, p1, p2, p3, p4, p5⟩ := h.cvs l3
        exact jv (pe_weak (pe_callB cr_isTM (h.gl g2) hm (by decide +kernel) (pa_cons (sA a X c _ h g4) (pa_cons (pe_tup p5) pa_nil rfl) (star_cons g3)) hn.1 hn.2 (star_cons g3) rfl) (tm_isT h.gk h.K p1 p2 (by omega) l2 p4)) g5
      · cases g6
    · cases g
  | .call f es, X, c, mo, e, h, g => by
    unfold chkE at g
    split at g
    · rename_i x p xs q
      simp only [Bool.and_eq_true, decide_eq_true_eq] at g
      obtain ⟨⟨⟨⟨g1, g2⟩, g3⟩, g4⟩, g5⟩ := g
      split at g5
      · rename_i f' np nw hd
        simp only [Bool.and_eq_true, decide_eq_true_eq] at g5
        obtain ⟨⟨rfl, l1⟩, l2⟩ := g5
        obtain ⟨fa, fd, ps, k, kd, d1, d2, d3, d4, d5, d6⟩ := h.defs x f np nw hd
        obtain ⟨z1, z2⟩ := sEs es X c xs h g4
        exact jvn (e_call d5 d4 (h.gl g1) d1 d2 d3 (okN_1 g2).1 z1 z2 g3 l1) (fun hw => n_call d5 d4 (h.gl g1) d1 d2 d3 (okN_1 g2).1 (d6 hw) z1 z2 g3 l1) l2
      · cases g5
    · cases g
  | .mk k es, X, c, mo, e, h, g => by
    unfold chkE at g
    split at g
    · rename_i x p xs q
      simp only [Bool.and_eq_true, decide_eq_true_eq, beq_iff_eq] at g
      obtain ⟨⟨⟨⟨⟨⟨g0, g1⟩, g2⟩, g3⟩, g4⟩, g6⟩, g5⟩ := g
      subst g0 g6
      split at g5
      · rename_i f' np hd
        simp only [decide_eq_true_eq] at g5
        obtain ⟨Cc, fa, fd, ps, k, d1, d2, d3, d4, d5, d6, d7⟩ := h.mks x f' np hd
        obtain ⟨z1, z2⟩ := sEs es X c xs h g4
        exact e_mk d4 d7 d6 (h.gl g1) d3 d5 (okN_1 g2).1 d1 d2 z1 z2 g3 g5
      · cases g5
    · cases g
  | .meth _ _ _, X, c, mo, e, h, g => by simp [chkE] at g
  | .lc ow el t i cs, X, c, mo, e, h, g => by
    unfold chkE at g
    split at g
    · rename_i elt tg iter ifs scope p
      simp only [Bool.and_eq_true, Bool.not_eq_true', decide_eq_false_iff_not] at g
      obtain ⟨⟨⟨⟨⟨⟨⟨g1, g2⟩, g3⟩, g4⟩, g5⟩, g6⟩, g7⟩, g8⟩ := g
      have z : LcOk X Γ KEF C ini elt tg iter ifs scope (ownOf c ow) el t i cs := {
        hc := h.calm, hN := h.nd, hi := sI i X c tg iter h g1, ok := h.blkOk g2,
        hg := fun s H B cl fp => (h.blk g2 s H B cl fp).g t tg g3,
        ht := fun s H B cl fp => sLs cs _ _ ifs (h.blk g2 s H B cl fp) g4,
        he := fun s H B cl fp => sE el _ _ .v elt (h.blk g2 s H B cl fp) g5,
        hs := notSet_ok g7,
        sl := fun n hn => by
          rw [ownOf_snd]
          exact of_decide_eq_true (List.all_eq_true.mp g6 n hn) }
      have a := e_lc (pos := p) z
      have b := n_lc (pos := p) z
      rw [ownOf_snd] at a b
      cases mo with
      | v => exact a
      | t => exact absurd rfl g8
      | n => exact b
    · cases g
  | .lc2 _ _ _ _ _ _ _ _, X, c, mo, e, h, g => by simp [chkE] at g
  | .dc _ _ _ _ _ _, X, c, mo, e, h, g => by simp [chkE] at g
  | .s00 a, X, c, mo, e, h, g => by
    unfold chkE at g
    split at g
    · simp only [Bool.and_eq_true] at g
      exact jvn (pe_weak (pe_slice (sl_K h.K) (sA a X c _ h g.1) po_none po_none) tm_s00) (fun _ => pe_weak (pe_slice (sl_K h.K) (sA a X c _ h g.1) po_none po_none) tn_s00) g.2
    · cases g
  | .s10 a b, X, c, mo, e, h, g => by
    unfold chkE at g
    split at g
    · simp only [Bool.and_eq_true] at g
      exact jvn (pe_weak (pe_slice (sl_K h.K) (sA a X c _ h g.1.1) (po_some (sE b X c .v _ h g.1.2)) po_none) tm_s10) (fun _ => pe_weak (pe_slice (sl_K h.K) (sA a X c _ h g.1.1) (po_some (sE b X c .v _ h g.1.2)) po_none) tn_s10) g.2
    · cases g
  | .s01 a b, X, c, mo, e, h, g => by
    unfold chkE at g
    split at g
    · simp only [Bool.and_eq_true] at g
      exact jvn (pe_weak (pe_slice (sl_K h.K) (sA a X c _ h g.1.1) po_none (po_some (sE b X c .v _ h g.1.2))) tm_s01) (fun _ => pe_weak (pe_slice (sl_K h.K) (sA a X c _ h g.1.1) po_none (po_some (sE b X c .v _ h g.1.2))) tn_s01) g.2
    · cases g
  | .s11 a b d, X, c, mo, e, h, g => by
    unfold chkE at g
    split at g
    · simp only [Bool.and_eq_true] at g
      exact jvn (pe_weak (pe_slice (sl_K h.K) (sA a X c _ h g.1.1.1) (po_some (sE b X c .v _ h g.1.1.2)) (po_some (sE d X c .v _ h g.1.2))) tm_s11) (fun _ => pe_weak (pe_slice (sl_K h.K) (sA a X c _ h g.1.1.1) (po_some (sE b X c .v _ h g.1.1.2)) (po_some (sE d X c .v _ h g.1.2))) tn_s11) g.2
    · cases g
  | .pop i, X, c, mo, e, h, g => by
    unfold chkE at g
    split at g
    · simp only [Bool.and_eq_true, beq_iff_eq, decide_eq_true_eq] at g
      obtain ⟨⟨⟨g1, g2⟩, g3⟩, rfl⟩ := g
      subst g1
      obtain ⟨a, b, d1, d2⟩ := h.vis g2
      exact e_pop a b d1 d2 (by simpa using g3)
    · cases g
  | .popA i k, X, c, mo, e, h, g => by
    unfold chkE at g
    split at g
    · simp only [Bool.and_eq_true, beq_iff_eq, decide_eq_true_eq] at g
      obtain ⟨⟨⟨⟨⟨g1, g2⟩, g3⟩, g4⟩, g5⟩, rfl⟩ := g
      subst g1
      obtain ⟨a, b, d1, d2⟩ := h.vis g2
      exact e_popA a b d1 d2 (sE k X c .v _ h g5) g4 (by simpa using g3)
    · cases g
theorem sA : ∀ (ma : A) (X : Cx) (c : Sc) (e : Expr), Fit X Γ pn c C ini → chkA pn c ma e = true → PE X e (TO Γ KEF (evA C ini ma))
  | .e m, X, c, e, h, g => by
    unfold chkA at g
    exact o_e (sE m X c .v e h g)
  | .b i, X, c, e, h, g => by
    unfold chkA at g
    split at g
    · obtain ⟨a, b, d1, d2⟩ := h.vis g
      exact o_b a b d1 d2
    · cases g
/-- the operands, each -/
theorem sAs : ∀ (as : List A) (X : Cx) (c : Sc) (es : List Expr), Fit X Γ pn c C ini → chkAs pn c as es = true → (match as, es with
    | [], [] => True
    | m :: ms, e :: es => PE X e (TO Γ KEF (evA C ini m)) ∧ (match ms, es with
      | [], [] => True
      | m2 :: ms2, e2 :: es2 => PE X e2 (TO Γ KEF (evA C ini m2)) ∧ (match ms2, es2 with
        | [], [] => True
        | _ :: _, _ :: _ => True
        | _, _ => False)
      | _, _ => False)
    | _, _ => False)
  | [], X, c, es, h, g => by
    cases es with
    | nil => trivial
    | cons _ _ => simp [chkAs] at g
  | a :: as, X, c, es, h, g => by
    cases es with
    | nil => simp [chkAs] at g
    | cons e es =>
      simp only [chkAs, Bool.and_eq_true] at g
      refine ⟨sA a X c e h g.1.2, ?_⟩
      have z := sAs as X c es h g.2
      cases as with
      | nil => cases es with
        | nil => trivial
        | cons _ _ => exact z
      | cons a2 as => cases es with
        | nil => exact z
        | cons e2 es =>
          refine ⟨z.1, ?_⟩
          have z2 := z.2
          cases as with
          | nil => cases es with
            | nil => trivial
            | cons _ _ => exact z2
          | cons _ _ => cases es with
            | nil => exact z2
            | cons _ _ => trivial
theorem sAo : ∀ (as : List A) (X : Cx) (c : Sc) (es : List Expr), Fit X Γ pn c C ini → chkAs pn c as es = true → PA X es (TAo Γ KEF (evAs C ini as)) ∧ es.all noStar = true
  | [], X, c, es, h, g => by
    cases es with
    | nil => exact ⟨ao_nil, rfl⟩
    | cons _ _ => simp [chkAs] at g
  | a :: as, X, c, es, h, g => by
    cases es with
    | nil => simp [chkAs] at g
    | cons e es =>
      simp only [chkAs, Bool.and_eq_true] at g
      obtain ⟨z1, z2⟩ := sAo as X c es h g.2
      exact ⟨ao_cons (sA a X c e h g.1.2) z1 g.1.1, by simp [g.1.1, z2]⟩
theorem sEs : ∀ (as : List E) (X : Cx) (c : Sc) (es : List Expr), Fit X Γ pn c C ini → chkEs pn c as es = true → PA X es (TA Γ KEF (evEs C ini as)) ∧ es.all noStar = true
  | [], X, c, es, h, g => by
    cases es with
    | nil => exact ⟨a_nil, rfl⟩
    | cons _ _ => simp [chkEs] at g
  | a :: as, X, c, es, h, g => by
    cases es with
    | nil => simp [chkEs] at g
    | cons e es =>
      simp only [chkEs, Bool.and_eq_true] at g
      obtain ⟨z1, z2⟩ := sEs as X c es h g.2
      exact ⟨a_cons (sE a X c .v e h g.1.2) z1 g.1.1, by simp [g.1.1, z2]⟩
theorem sL : ∀ (as : List E) (X : Cx) (c : Sc) (es : List Expr) (pos : Pos), Fit X Γ pn c C ini → es ≠ [] →
    (chkL pn c .v as es = true → PE X (.BoolOp .And es pos) (TM Γ KEF (evE C ini (.and as)))) ∧ (chkL pn c .t as es = true → PW X (.BoolOp .And es pos) (TB Γ KEF (evAnd C ini as))) ∧
    (chkL pn c .v as es = true → PE X (.BoolOp .Or es pos) (TM Γ KEF (evE C ini (.or as)))) ∧ (chkL pn c .t as es = true → PW X (.BoolOp .Or es pos) (TB Γ KEF (evOr C ini as)))
  | [], X, c, es, pos, h, hn => by
    cases es with
    | nil => exact absurd rfl hn
    | cons _ _ => exact ⟨fun g => by simp [chkL] at g, fun g => by simp [chkL] at g, fun g => by simp [chkL] at g, fun g => by simp [chkL] at g⟩
  | a :: as, X, c, es, pos, h, hn => by
    cases es with
    | nil => exact absurd rfl hn
    | cons e es =>
      cases es with
      | nil =>
        cases as with
        | nil =>
          refine ⟨fun g => ?_, fun g => ?_, fun g => ?_, fun g => ?_⟩ <;> simp only [chkL, Bool.and_eq_true] at g
          · exact v_and1 (sE a X c .v e h g.1)
          · exact w_and1 (sE a X c .t e h g.1)
          · exact v_or1 (sE a X c .v e h g.1)
          · exact w_or1 (sE a X c .t e h g.1)
        | cons _ _ => refine ⟨fun g => ?_, fun g => ?_, fun g => ?_, fun g => ?_⟩ <;> simp [chkL] at g
      | cons e2 es =>
        have z := sL as X c (e2 :: es) pos h (by simp)
        cases as with
        | nil => refine ⟨fun g => ?_, fun g => ?_, fun g => ?_, fun g => ?_⟩ <;> simp [chkL] at g
        | cons a2 as =>
          refine ⟨fun g => ?_, fun g => ?_, fun g => ?_, fun g => ?_⟩
          all_goals rw [chkL, Bool.and_eq_true] at g
          · exact v_and (sE a X c .v e h g.1) (z.1 g.2)
          · exact w_and (sE a X c .t e h g.1) (z.2.1 g.2)
          · exact v_or (sE a X c .v e h g.1) (z.2.2.1 g.2)
          · exact w_or (sE a X c .t e h g.1) (z.2.2.2 g.2)
theorem sLs : ∀ (as : List E) (X : Cx) (c : Sc) (es : List Expr), Fit X Γ pn c C ini → chkLs pn c as es = true → PTs X es (TB Γ KEF (evAnd C ini as))
  | [], X, c, es, h, g => by
    cases es with
    | nil => exact ts_nil
    | cons _ _ => simp [chkLs] at g
  | a :: as, X, c, es, h, g => by
    cases as with
    | nil =>
      cases es with
      | nil => simp [chkLs] at g
      | cons e es =>
        cases es with
        | nil => exact ts_one (sE a X c .t e h (by simpa [chkLs] using g))
        | cons _ _ => simp [chkLs] at g
    | cons _ _ => simp [chkLs] at g
theorem sI : ∀ (i : I) (X : Cx) (c : Sc) (tg e : Expr), Fit X Γ pn c C ini → chkI pn c i tg e = true → PI X tg e (TIm Γ KEF (evI C ini i))
  | .seq m, X, c, tg, e, h, g => by
    unfold chkI at g
    exact i_seq h.K (sE m X c .v e h g)
  | .enum m, X, c, tg, e, h, g => by
    unfold chkI at g
    split at g
    · simp only [Bool.and_eq_true, beq_iff_eq] at g
      obtain ⟨⟨⟨g1, g2⟩, g3⟩, g4⟩ := g
      subst g1
      exact i_enum h.K (h.gl g2) (h.blt _ (by decide +kernel)) (sE m X c .v _ h g4) g3
    · cases g
  | .zip m n, X, c, tg, e, h, g => by
    unfold chkI at g
    split at g
    · simp only [Bool.and_eq_true, beq_iff_eq] at g
      obtain ⟨⟨⟨⟨⟨g1, g2⟩, g3⟩, g4⟩, g5⟩, g6⟩ := g
      subst g1
      exact i_zip h.K (h.gl g2) (h.blt _ (by decide +kernel)) (sE m X c .v _ h g5) (sE n X c .v _ h g6) g3 g4
    · cases g
  | .rng m, X, c, tg, e, h, g => by
    unfold chkI at g
    split at g
    · simp only [Bool.and_eq_true, beq_iff_eq] at g
      obtain ⟨⟨⟨g1, g2⟩, g3⟩, g4⟩ := g
      subst g1
      exact i_rng (h.gl g2) (h.blt _ (by decide +kernel)) (sE m X c .v _ h g4) g3
    · cases g
  | .rng2 m n, X, c, tg, e, h, g => by
    unfold chkI at g
    split at g
    · simp only [Bool.and_eq_true, beq_iff_eq] at g
      obtain ⟨⟨⟨⟨⟨g1, g2⟩, g3⟩, g4⟩, g5⟩, g6⟩ := g
      subst g1
      exact i_rng2 (h.gl g2) (h.blt _ (by decide +kernel)) (sE m X c .v _ h g5) (sE n X c .v _ h g6) g3 g4
    · cases g
  | .items _, X, c, tg, e, h, g => by simp [chkI] at g
  | .vals _, X, c, tg, e, h, g => by simp [chkI] at g
end
end
end Mi
end
section
set_option maxRecDepth 100000
/-! Mi: the check is sound: statements. -/
namespace Mi
open PySem L2
variable {Γ : Glo} {pn : Pn} {C : Nat → List D → List D → CO} {ini : Str → Option Nat} {W : Nat} {kd : Kd}
theorem sw_of {X : Cx} {c : Sc} (h : Fit X Γ pn c C ini) {e : Expr} {x : Str} {p : Pos} {l : Nat} (hc : compB e = false) : swapsWith e (some (.Name x p)) l X.env = pure (swB c e x p) := by
  have hb : X.env.blockKind = .function := by unfold Env.blockKind; rw [h.kind]; rfl
  have hk : X.env.kindOf x = c.sc.names.lookup x := by unfold Env.kindOf; rw [h.sc]
  cases e <;> first | rfl | (cases hc; done) | skip
  rename_i elt gs s lp
  unfold swapsWith swB
  simp only [hb, hk, Expr.pos]
  by_cases h1 : c.sc.names.lookup x = some .local
  · simp [h1]
  · have h2 : (c.sc.names.lookup x == some NameKind.local) = false := by simpa using h1
    simp [h1, h2]
theorem swSub {e : Expr} {tg : Expr} {l : Nat} {env : Env} (ht : (match tg with | .Name _ _ => false | _ => true) = true) : swapsWithSole [tg] e l env = pure false := by
  unfold swapsWithSole swapsWith
  cases e <;> first | rfl | (cases tg <;> first | rfl | cases ht)
theorem stSub {e : Expr} {tg : Expr} {env : Env} (h : noTup e = true) : swappedStores [tg] e env = pure none := by
  unfold swappedStores
  cases tg <;> cases e <;> first | rfl | cases h
theorem stSub2 {e : Expr} {x i : Expr} {p : Pos} {env : Env} : swappedStores [.Subscript x i p] e env = pure none := by
  unfold swappedStores
  cases e <;> rfl
theorem asgSub {o ek : Expr} {p : Pos} {env : Env} (h : plainIx ek = true) : ∀ v, assign (.Subscript o ek p) env v = (do
      let ov ← holding [v] (eval o env)
      let iv ← holding [v, ov] (eval ek env)
      standAt p
      holding [v, ov, iv] (setItem ov iv v)
      release [v, ov, iv] []) := by
  intro v
  cases ek <;> first | rfl | cases h
theorem lc_parts (hS : HSet Γ pn C ini) {X : Cx} {c : Sc} {ow : List Nat} {el : E} {t : T} {i : I} {cs : List E} {mo : Mo} {e : Expr} (h : Fit X Γ pn c C ini) (g : chkE pn c mo (.lc ow el t i cs) e = true) :
    ∃ elt tg iter ifs scope p, e = .ListComp elt [⟨tg, iter, ifs, 0⟩] scope p ∧ LcOk X Γ KEF C ini elt tg iter ifs scope (ownOf c ow) el t i cs := by
  unfold chkE at g
  split at g
  · rename_i elt tg iter ifs scope p
    simp only [Bool.and_eq_true, Bool.not_eq_true', decide_eq_false_iff_not] at g
    obtain ⟨⟨⟨⟨⟨⟨⟨g1, g2⟩, g3⟩, g4⟩, g5⟩, g6⟩, g7⟩, g8⟩ := g
    exact ⟨elt, tg, iter, ifs, scope, p, rfl, {
        hc := h.calm, hN := h.nd, hi := sI hS i X c tg iter h g1, ok := h.blkOk g2,
        hg := fun s H B cl fp => (h.blk g2 s H B cl fp).g t tg g3,
        ht := fun s H B cl fp => sLs hS cs _ _ ifs (h.blk g2 s H B cl fp) g4,
        he := fun s H B cl fp => sE hS el _ _ .v elt (h.blk g2 s H B cl fp) g5,
        hs := notSet_ok g7,
        sl := fun n hn => by
          rw [ownOf_snd]
          exact of_decide_eq_true (List.all_eq_true.mp g6 n hn) }⟩
  · cases g
/-- a list comprehension is one in the small language, too -/
theorem lc_of {c : Sc} {mo : Mo} {m : E} {elt : Expr} {gs : List Comprehension} {scope : Scope} {p : Pos} (g : chkE pn c mo m (.ListComp elt gs scope p) = true) : ∃ ow el t i cs, m = .lc ow el t i cs := by
  cases m <;> first | exact ⟨_, _, _, _, _, rfl⟩ | (unfold chkE at g; cases g)
theorem swB_lc {c : Sc} {e : Expr} {x : Str} {p : Pos} (h : swB c e x p = true) : ∃ elt gs s lp, e = .ListComp elt gs s lp := by
  cases e <;> first | exact ⟨_, _, _, _, rfl⟩ | cases h
section
variable (hS : HSet Γ pn C ini)
include hS
theorem sSet {X : Cx} {c : Sc} {i : Nat} {m : E} {x : Str} {p : Pos} {e : Expr} {pos : Pos} (h : Fit X Γ pn c C ini) (g1 : locB c i x = true) (g2 : compB e = false) (g3 : chkE pn c .v m e = true) (g4 : (!swB c e x p || locOnly c i x) = true) : PS X (.Assign [.Name x p] e pos) (TSm Γ KEF kd (evS C ini W (.set i m))) := by
  obtain ⟨a, b, d⟩ := h.loc g1
  have sw := sw_of h (x := x) (p := p) (l := pos.line) g2
  cases q : swB c e x p with
  | false => rw [q] at sw; exact s_set h.nd a b d sw (sE hS m X c .v e h g3)
  | true =>
    obtain ⟨elt, gs, s, lp, rfl⟩ := swB_lc q
    obtain ⟨ow, el, t, ii, cs, rfl⟩ := lc_of g3
    obtain ⟨elt', tg, iter, ifs, scope, p', e1, z⟩ := lc_parts hS h g3
    cases e1
    rw [q] at sw g4
    simp only [locOnly, Bool.not_true, Bool.false_or, Bool.and_eq_true, decide_eq_true_eq] at g4
    have := s_setLc (kd := kd) (W := W) z (n := i) a (by rw [h.sc]; exact g4.2) sw
    rw [ownOf_snd] at this
    exact this
theorem sSetO {X : Cx} {c : Sc} {i : Nat} {m : E} {x : Str} {p : Pos} {e : Expr} {pos : Pos} (h : Fit X Γ pn c C ini) (g1 : locB c i x = true) (g2 : compB e = false) (g3 : chkE pn c .n m e = true) (g4 : (!swB c e x p || locOnly c i x) = true) : PS X (.Assign [.Name x p] e pos) (TSm Γ KEF kd (evS C ini W (.setO i m))) := by
  obtain ⟨a, b, d⟩ := h.loc g1
  have sw := sw_of h (x := x) (p := p) (l := pos.line) g2
  cases q : swB c e x p with
  | false => rw [q] at sw; exact s_setO h.nd a b d sw (sE hS m X c .n e h g3)
  | true =>
    obtain ⟨elt, gs, s, lp, rfl⟩ := swB_lc q
    obtain ⟨ow, el, t, ii, cs, rfl⟩ := lc_of g3
    obtain ⟨elt', tg, iter, ifs, scope, p', e1, z⟩ := lc_parts hS h g3
    cases e1
    rw [q] at sw g4
    simp only [locOnly, Bool.not_true, Bool.false_or, Bool.and_eq_true, decide_eq_true_eq] at g4
    have := s_setOLc (kd := kd) (W := W) z (n := i) a (by rw [h.sc]; exact g4.2) sw
    rw [ownOf_snd] at this
    exact this
theorem nokd (h : (!isKi kd) = true) : kd ≠ .new := by
  intro z; subst z; cases h
theorem iskd (h : isKi kd = true) : kd = .new := by
  cases kd <;> first | rfl | cases h
mutual
theorem sS : ∀ (s : S) (X : Cx) (c : Sc) (st : Stmt), Fit X Γ pn c C ini → (∀ e s, ¬ X.xe e s) → chkS pn c kd s st = true → PS X st (TSm Γ KEF kd (evS C ini W s))
  | .pass, X, c, st, h, hx, g => by
    unfold chkS at g; split at g
    · exact s_pass
    · cases g
  | .ex m, X, c, st, h, hx, g => by
    unfold chkS at g; split at g
    · simp only [Bool.and_eq_true] at g
      exact s_ex (sE hS m X c .v _ h g.2) g.1
    · cases g
  | .ret m, X, c, st, h, hx, g => by
    unfold chkS at g; split at g
    · simp only [Bool.and_eq_true] at g
      exact s_ret (nokd hS g.1) (sE hS m X c .v _ h g.2)
    · cases g
  | .retN, X, c, st, h, hx, g => by
    unfold chkS at g; split at g
    · exact s_retN (nokd hS g)
    · cases g
  | .retF m, X, c, st, h, hx, g => by
    unfold chkS at g; split at g
    · simp only [Bool.and_eq_true] at g
      obtain rfl := iskd hS g.1
      exact s_retF (sE hS m X c .n _ h g.2)
    · cases g
  | .retO i, X, c, st, h, hx, g => by
    unfold chkS at g; split at g
    · simp only [Bool.and_eq_true] at g
      obtain rfl := iskd hS g.1
      obtain ⟨a, b, d1, d2⟩ := h.vis g.2
      exact s_retO a b d1 d2
    · cases g
  | .set i m, X, c, st, h, hx, g => by
    unfold chkS at g; split at g
    · simp only [Bool.and_eq_true, Bool.not_eq_true'] at g
      obtain ⟨⟨⟨g1, g2⟩, g3⟩, g4⟩ := g
      exact sSet hS h g1 g2 g3 g4
    · cases g
  | .setO i m, X, c, st, h, hx, g => by
    unfold chkS at g; split at g
    · simp only [Bool.and_eq_true, Bool.not_eq_true'] at g
      obtain ⟨⟨⟨g1, g2⟩, g3⟩, g4⟩ := g
      exact sSetO hS h g1 g2 g3 g4
    · cases g
  | .setT t m, X, c, st, h, hx, g => by
    unfold chkS at g; split at g
    · rename_i tg e p
      simp only [Bool.and_eq_true, Bool.not_eq_true'] at g
      obtain ⟨⟨⟨⟨g1, g2⟩, g3⟩, g4⟩, g5⟩ := g
      have ht : ∃ a k q, tg = .Tuple a k q := by cases tg <;> first | exact ⟨_, _, _, rfl⟩ | cases g1
      obtain ⟨a, k, q, rfl⟩ := ht
      exact s_setT (sE hS m X c .v _ h g5) (h.g t _ g4) (swSub rfl) (stSub g2) rfl
    · cases g
  | .par _ _ _ _, X, c, st, h, hx, g => by simp [chkS] at g
  | .box i m, X, c, st, h, hx, g => by
    unfold chkS at g; split at g
    · rename_i x p e pos
      simp only [Bool.and_eq_true, Bool.not_eq_true'] at g
      obtain ⟨⟨⟨g1, g2⟩, g3⟩, g4⟩ := g
      obtain ⟨a, b, d⟩ := h.loc g1
      have sw := sw_of h (x := x) (p := p) (l := pos.line) g2
      rw [g4] at sw
      exact s_box h.nd a b d sw (sE hS m X c .n e h g3)
    · cases g
  | .app i m, X, c, st, h, hx, g => by
    unfold chkS at g; split at g
    · simp only [Bool.and_eq_true, beq_iff_eq] at g
      obtain ⟨⟨⟨⟨g1, g2⟩, g3⟩, g4⟩, g5⟩ := g
      subst g1
      obtain ⟨a, b, d1, d2⟩ := h.vis g2
      exact s_app a b d1 d2 (sE hS m X c .v _ h g5) g4 (by simpa using g3)
    · cases g
  | .ext i m, X, c, st, h, hx, g => by
    unfold chkS at g; split at g
    · simp only [Bool.and_eq_true, beq_iff_eq] at g
      obtain ⟨⟨⟨⟨g1, g2⟩, g3⟩, g4⟩, g5⟩ := g
      subst g1
      obtain ⟨a, b, d1, d2⟩ := h.vis g2
      exact s_ext a b d1 d2 (sE hS m X c .n _ h g5) g4 (by simpa using g3)
    · cases g
  | .extB i j, X, c, st, h, hx, g => by
    unfold chkS at g; split at g
    · simp only [Bool.and_eq_true, beq_iff_eq] at g
      obtain ⟨⟨⟨g1, g2⟩, g3⟩, g4⟩ := g
      subst g1
      obtain ⟨a, b, d1, d2⟩ := h.vis g2
      obtain ⟨a', b', d1', d2'⟩ := h.vis g3
      exact s_extB a b d1 d2 a' b' d1' d2' (by simpa using g4)
    · cases g
  | .revs i, X, c, st, h, hx, g => by
    unfold chkS at g; split at g
    · simp only [Bool.and_eq_true, beq_iff_eq] at g
      obtain ⟨⟨g1, g2⟩, g3⟩ := g
      subst g1
      obtain ⟨a, b, d1, d2⟩ := h.vis g2
      exact s_revs a b d1 d2 (by simpa using g3)
    · cases g
  | .clr i, X, c, st, h, hx, g => by
    unfold chkS at g; split at g
    · simp only [Bool.and_eq_true, beq_iff_eq] at g
      obtain ⟨⟨g1, g2⟩, g3⟩ := g
      subst g1
      obtain ⟨a, b, d1, d2⟩ := h.vis g2
      exact s_clr a b d1 d2 (by simpa using g3)
    · cases g
  | .setK i k m, X, c, st, h, hx, g => by
    unfold chkS at g; split at g
    · simp only [Bool.and_eq_true] at g
      obtain ⟨⟨⟨⟨g1, g2⟩, g3⟩, g4⟩, g5⟩ := g
      obtain ⟨a, b, d1, d2⟩ := h.vis g1
      exact s_setK a b d1 d2 (sE hS m X c .v _ h g4) (sE hS k X c .v _ h g3) (asgSub g2) (swSub rfl) stSub2
    · cases g
  | .setL i k m, X, c, st, h, hx, g => by
    unfold chkS at g; split at g
    · simp only [Bool.and_eq_true] at g
      obtain ⟨⟨⟨⟨g1, g2⟩, g3⟩, g4⟩, g5⟩ := g
      obtain ⟨a, b, d1, d2⟩ := h.vis g1
      exact s_setL a b d1 d2 (sE hS m X c .v _ h g4) (sE hS k X c .v _ h g3) (asgSub g2) (swSub rfl) stSub2
    · cases g
  | .upd _ _, X, c, st, h, hx, g => by simp [chkS] at g
  | .aug i f m, X, c, st, h, hx, g => by
    unfold chkS at g; split at g
    · rename_i x p op e q
      simp only [Bool.and_eq_true] at g
      obtain ⟨⟨g1, g2⟩, g3⟩ := g
      obtain ⟨a, b, d⟩ := h.loc g2
      cases op <;> first | (cases g1; done) | (simp only [augB, beq_iff_eq] at g1; subst g1)
      · exact s_aug h.nd a b d (sE hS m X c .v _ h g3) ip_add fun _ _ _ => rfl
      · exact s_aug h.nd a b d (sE hS m X c .v _ h g3) iop_xor fun _ _ _ => rfl
      · exact s_aug h.nd a b d (sE hS m X c .v _ h g3) iop_and fun _ _ _ => rfl
    · cases g
  | .fld i f m, X, c, st, h, hx, g => by
    unfold chkS at g; split at g
    · simp only [Bool.and_eq_true, beq_iff_eq, decide_eq_true_eq] at g
      obtain ⟨⟨⟨⟨g1, g2⟩, g3⟩, g4⟩, g5⟩ := g
      subst g1
      obtain ⟨a, b, d1, d2⟩ := h.vis g3
      exact s_fld h.gk h.K g2 a b d1 d2 (sE hS m X c .v _ h g4) (swaps_no g5)
    · cases g
  | .ite m a b, X, c, st, h, hx, g => by
    unfold chkS at g; split at g
    · simp only [Bool.and_eq_true] at g
      exact s_ite (sE hS m X c .t _ h g.1.1) (sSs a X c _ h hx g.1.2) (sSs b X c _ h hx g.2)
    · cases g
  | .for t i b, X, c, st, h, hx, g => by
    unfold chkS at g; split at g
    · simp only [Bool.and_eq_true] at g
      obtain ⟨⟨⟨g1, g2⟩, g3⟩, g4⟩ := g
      exact s_for (fun e s z => (hx e s z).elim) h.calm (sI hS i X c _ _ h g1) (h.g t _ g2) (sSs b X c _ h hx g3) (notSet_ok g4)
    · cases g
  | .while m b, X, c, st, h, hx, g => by
    unfold chkS at g; split at g
    · simp only [Bool.and_eq_true] at g
      exact s_while (fun e s z => (hx e s z).elim) (sE hS m X c .t _ h g.1) (sSs b X c _ h hx g.2)
    · cases g
  | .raise k es, X, c, st, h, hx, g => by
    unfold chkS at g; split at g
    · exact s_raise
    · cases g
  | .fr is s, X, c, st, h, hx, g => by
    unfold chkS at g
    exact s_fr (sS s X c st h hx g)
theorem sSs : ∀ (ss : List S) (X : Cx) (c : Sc) (sts : List Stmt), Fit X Γ pn c C ini → (∀ e s, ¬ X.xe e s) → chkSs pn c kd ss sts = true → PSs X sts (TSm Γ KEF kd (evSs C ini W ss))
  | [], X, c, sts, h, hx, g => by
    cases sts with
    | nil => exact ss_nil
    | cons _ _ => simp [chkSs] at g
  | s :: ss, X, c, sts, h, hx, g => by
    cases sts with
    | nil => simp [chkSs] at g
    | cons st sts =>
      simp only [chkSs, Bool.and_eq_true] at g
      exact ss_cons (sS s X c st h hx g.1) (sSs ss X c sts h hx g.2)
end
end
end Mi
end
section
set_option maxRecDepth 100000
/-! Mi: a program: all its defs keep their promises. -/
namespace Mi
open PySem L2
/-- a def of the text -/
def DefOk (K : PySem.W.Frag) (mg : Str → Option Value) (pn : Pn) (F : Nat → Option Fn) (x : Str) (f np : Nat) (nw : Bool) : Prop :=
  ∃ (st : Stmt) (fa : Addr) (fd : FuncData) (d : Fd), F f = some (.d d) ∧ d.ps = np ∧ (nw = true → d.kd = .new) ∧ (∀ c, d.kd ≠ .init c) ∧ Fun K x x st fa fd ∧ mg x = some (.ref fa) ∧ FnScope d.ns (d.ns.take np) (defScope st) ∧ Binds K fd (d.ns.take np) [] ∧ (d.ns.take np).length = np ∧ chkFd pn d (defScope st) (defBody st) = true
/-- a class of the text -/
def ClsOk (K : PySem.W.Frag) (mg : Str → Option Value) (Γ : Glo) (pn : Pn) (F : Nat → Option Fn) (ini : Str → Option Nat) (x : Str) (f np : Nat) : Prop :=
  ∃ (st : Stmt) (Cc fa : Addr) (q : Str) (fd : FuncData) (d : Fd), F f = some (.d d) ∧ d.ps = np ∧ d.kd = .init x ∧ Fun K "__init__" q st fa fd ∧ ini x = some f ∧ Γ.cA x = some Cc ∧ mg x = some (.ref Cc) ∧ Mk K Cc fa ∧ FnScope d.ns (d.ns.take np) (defScope st) ∧ Binds K fd (d.ns.take np) [] ∧ (d.ns.take np).length = np ∧ chkFd pn d (defScope st) (defBody st) = true
structure POk (P : Program) (w : World) (K : PySem.W.Frag) (mg : Str → Option Value) (base : Heap) (Γ : Glo) (pn : Pn) (F : Nat → Option Fn) (ini : Str → Option Nat) : Prop where
  eK : K = Γ.K
  blt : ∀ x ∈ blts, mg x = none
  defs : ∀ x f np nw, pn.defs x = some (f, np, nw) → DefOk K mg pn F x f np nw
  cls : ∀ x, x ∈ pn.cls.map (·.1) → ∃ Cc, Γ.cA x = some Cc ∧ mg x = some (.ref Cc) ∧ ∀ n ∈ (["str", "int", "bool", "list", "tuple", "dict"] : List String), x ≠ Str.ofString n
  mks : ∀ x f np, pn.cls.lookup x = some (f, np) → ClsOk K mg Γ pn F ini x f np
  consts : ∀ x d, pn.consts x = some d → ∃ v u, mg x = some u ∧ RelV v u ∧ ∀ Hm i, Rep Γ Hm i v d
  gk : GOk Γ pn.fl
  hset : ∀ n W, HSet Γ pn (call F ini W n) ini
section
variable {P : Program} {w : World} {K : PySem.W.Frag} {mg : Str → Option Value} {base : Heap} {Γ : Glo} {pn : Pn} {F : Nat → Option Fn} {ini : Str → Option Nat} {W : Nat}
theorem call_succ {n f : Nat} {d : Fd} (h : F f = some (.d d)) : call F ini W (n + 1) f = fun ds m => runFd (call F ini W n) ini W d ds m := by
  funext ds m
  rw [call, h]
/-- what all defs promise at the depth n -/
structure At (P : Program) (w : World) (K : PySem.W.Frag) (mg : Str → Option Value) (base : Heap) (Γ : Glo) (pn : Pn) (F : Nat → Option Fn) (ini : Str → Option Nat) (W n : Nat) : Prop where
  defs : ∀ x f np nw, pn.defs x = some (f, np, nw) → ∃ fa fd ps kd, mg x = some (.ref fa) ∧ PySem.W.keepIn K (.ref fa) = true ∧ Binds K fd ps [] ∧ FnOk P w K mg base CX0 (2 * n) fa fd ps (spM Γ kd np (call F ini W n f)) ∧ (nw = true → kd = .new)
  mks : ∀ x f np, pn.cls.lookup x = some (f, np) → ∃ Cc fa fd ps, ini x = some f ∧ Γ.cA x = some Cc ∧ mg x = some (.ref Cc) ∧ Mk K Cc fa ∧ Binds K fd ps [] ∧ FnOk P w K mg base CX0 (2 * n) fa fd ps (spI Γ x np (call F ini W n f))
theorem fit_of (p : POk P w K mg base Γ pn F ini) {n : Nat} (a : At P w K mg base Γ pn F ini W n) {N ps : List Str} {sc : Scope} {qual : Str} {fa : Addr} {cdv : Value} {A : Around} {outer : List Env} {s : Shared} {H : Hp} {E : XK} (S : FnScope N ps sc)
    (hr : Room (2 * n + 1) (A.deeper (PyProof.Rows.envOfC qual sc s.heap.objs.size fa cdv))) : Fit (cxOf CX0 P w K mg base N qual sc fa cdv A outer s H E).nox Γ pn ⟨N, sc, fun _ => true⟩ (call F ini W n) ini where
  N := rfl
  nd := S.nd
  sc := rfl
  kind := S.kind
  fn := fun _ _ => rfl
  calm := rfl
  K := p.eK
  hu := by have := hr.un; show (A.deeper (PyProof.Rows.envOfC qual sc s.heap.objs.size fa cdv)).units + 70 < cLine; omega
  blt := p.blt
  defs := fun x f np nw h => by
    obtain ⟨fa', fd, ps', kd, h1, h2, h3, h4, h5⟩ := a.defs x f np nw h
    exact ⟨fa', fd, ps', 2 * n, kd, h1, h2, h3, hr.mono (Nat.le_succ _), h4, h5⟩
  cls := p.cls
  mks := fun x f np h => by
    obtain ⟨Cc, fa', fd, ps', h1, h2, h3, h4, h5, h6⟩ := a.mks x f np h
    exact ⟨Cc, fa', fd, ps', 2 * n, h1, h2, h3, h4, h5, hr, h6⟩
  consts := p.consts
  gk := p.gk
theorem all_at (p : POk P w K mg base Γ pn F ini) (W : Nat) : ∀ n, At P w K mg base Γ pn F ini W n := by
  intro n
  induction n with
  | zero =>
    refine ⟨fun x f np nw h => ?_, fun x f np h => ?_⟩
    · obtain ⟨st, fa, fd, d, h1, h2, h3, h4, h5, h6, h7, h8, h9, h10⟩ := p.defs x f np nw h
      have no : ∀ vs H Q E, ¬ spM Γ d.kd np (call F ini W 0 f) vs H Q E := fun vs H Q E z => by
        obtain ⟨_, _, _, _, _, _, _, _, z⟩ := z
        exact z
      exact ⟨fa, fd, _, d.kd, h6, h5.kp, h8, ⟨fun vs H Q E z => (no vs H Q E z).elim, fun A outer s H args us vs Q E _ _ _ _ z => (no vs H Q E z).elim⟩, h3⟩
    · obtain ⟨st, Cc, fa, q, fd, d, h1, h2, h3, h4, h5, h6, h7, h8, h9, h10, h11, h12⟩ := p.mks x f np h
      have no : ∀ vs H Q E, ¬ spI Γ x np (call F ini W 0 f) vs H Q E := fun vs H Q E z => by
        obtain ⟨_, _, _, _, _, _, _, _, _, _, _, _, _, _, _, _, _, z⟩ := z
        exact z
      exact ⟨Cc, fa, fd, _, h5, h6, h7, h8, h10, ⟨fun vs H Q E z => (no vs H Q E z).elim, fun A outer s H args us vs Q E _ _ _ _ z => (no vs H Q E z).elim⟩⟩
  | succ n a =>
    refine ⟨fun x f np nw h => ?_, fun x f np h => ?_⟩
    · obtain ⟨st, fa, fd, d, h1, h2, h3, h4, h5, h6, h7, h8, h9, h10⟩ := p.defs x f np nw h
      have z := fn_M (P := P) (w := w) (mg := mg) (base := base) (Γ := Γ) (C := call F ini W n) (ini := ini) (W := W) (k := 2 * n + 1) (kd := d.kd) (body := d.body) h5 h7 h4 fun cdv A outer s H E hr =>
        sSs (p.hset n W) d.body _ _ _ (fit_of p a h7 hr) (fun _ _ z => z) h10
      rw [h9] at z
      refine ⟨fa, fd, _, d.kd, h6, h5.kp, h8, ?_, h3⟩
      rw [call_succ h1]
      obtain ⟨dps, dns, dkd, db⟩ := d
      have h2 : dps = np := h2
      subst h2
      exact z
    · obtain ⟨st, Cc, fa, q, fd, d, h1, h2, h3, h4, h5, h6, h7, h8, h9, h10, h11, h12⟩ := p.mks x f np h
      have z := fn_I (P := P) (w := w) (mg := mg) (base := base) (Γ := Γ) (C := call F ini W n) (ini := ini) (W := W) (k := 2 * n + 1) (c := x) (body := d.body) h4 h9 fun cdv A outer s H E hr =>
        sSs (kd := .init x) (p.hset n W) d.body _ _ _ (fit_of p a h9 hr) (fun _ _ z => z) (by rw [← h3]; exact h12)
      rw [h11] at z
      refine ⟨Cc, fa, fd, _, h5, h6, h7, h8, h10, ?_⟩
      rw [call_succ h1]
      obtain ⟨dps, dns, dkd, db⟩ := d
      have h2 : dps = np := h2
      have h3 : dkd = .init x := h3
      subst h2 h3
      exact z
/-- one def, its data known -/
theorem def_at (p : POk P w K mg base Γ pn F ini) {n : Nat} (a : At P w K mg base Γ pn F ini W n) {x : Str} {f np : Nat} {st : Stmt} {fa : Addr} {fd : FuncData} {d : Fd} (h1 : F f = some (.d d)) (h2 : d.ps = np) (h4 : ∀ c, d.kd ≠ .init c) (h5 : Fun K x x st fa fd) (h7 : FnScope d.ns (d.ns.take np) (defScope st))
    (h9 : (d.ns.take np).length = np) (h10 : chkFd pn d (defScope st) (defBody st) = true) : FnOk P w K mg base CX0 (2 * (n + 1)) fa fd (d.ns.take np) (spM Γ d.kd np (call F ini W (n + 1) f)) := by
  have z := fn_M (P := P) (w := w) (mg := mg) (base := base) (Γ := Γ) (C := call F ini W n) (ini := ini) (W := W) (k := 2 * n + 1) (kd := d.kd) (body := d.body) h5 h7 h4 fun cdv A outer s H E hr =>
    sSs (p.hset n W) d.body _ _ _ (fit_of p a h7 hr) (fun _ _ z => z) h10
  rw [h9] at z
  rw [call_succ h1]
  obtain ⟨dps, dns, dkd, db⟩ := d
  have h2 : dps = np := h2
  subst h2
  exact z
end
end Mi
end
section
set_option maxRecDepth 100000
/-! Mi: from the written part's facts to a program's. -/
namespace Mi
open PySem L2
/-- what the written part says of a def -/
def DefFacts (K : PySem.W.Frag) (x : Str) (st : Stmt) : Prop := ∃ (fa : Addr) (an od : Option Addr) (sl : Array (Option Value)) (oc kV dc pm cd ct : Value),
  PySem.W.nsIn K mainGlobals x = some (some (.ref fa)) ∧ K.lookup fa = some ⟨oc, od, .func (PySem.W.fnOf x x (defArgs st) (defBody st) (defScope st) .none kV dc pm an cd ct), sl⟩ ∧ PySem.W.codeIn K cd x = true ∧ PySem.W.keepIn K (.ref fa) = true
/-- .. of a class with an __init__ -/
def ClsFacts (K : PySem.W.Frag) (x q : Str) (st : Stmt) (Cc : Addr) : Prop := ∃ (fa : Addr) (an od : Option Addr) (sl : Array (Option Value)) (oc kV dc pm cd ct : Value),
  PySem.W.findIn K (.ref Cc) "__init__" = some (some (.ref fa)) ∧ PySem.W.isFn K (.ref fa) = true ∧ K.lookup fa = some ⟨oc, od, .func (PySem.W.fnOf "__init__" q (defArgs st) (defBody st) (defScope st) .none kV dc pm an cd ct), sl⟩ ∧ PySem.W.codeIn K cd q = true ∧ PySem.W.keepIn K (.ref fa) = true ∧
  PySem.W.makesIn K Cc = true ∧ PySem.W.keepIn K (.ref Cc) = true
theorem mkDef {K : PySem.W.Frag} {x : Str} {st : Stmt} {fa : Addr} {an od : Option Addr} {sl : Array (Option Value)} {oc kV dc pm cd ct : Value} (a : PySem.W.nsIn K mainGlobals x = some (some (.ref fa)))
    (l : K.lookup fa = some ⟨oc, od, .func (PySem.W.fnOf x x (defArgs st) (defBody st) (defScope st) .none kV dc pm an cd ct), sl⟩) (c : PySem.W.codeIn K cd x = true) (k : PySem.W.keepIn K (.ref fa) = true) : DefFacts K x st := ⟨_, _, _, _, _, _, _, _, _, _, a, l, c, k⟩
theorem mkCls {K : PySem.W.Frag} {x q : Str} {st : Stmt} {Cc fa : Addr} {an od : Option Addr} {sl : Array (Option Value)} {oc kV dc pm cd ct : Value} (a : PySem.W.findIn K (.ref Cc) "__init__" = some (some (.ref fa))) (b : PySem.W.isFn K (.ref fa) = true)
    (l : K.lookup fa = some ⟨oc, od, .func (PySem.W.fnOf "__init__" q (defArgs st) (defBody st) (defScope st) .none kV dc pm an cd ct), sl⟩) (c : PySem.W.codeIn K cd q = true) (k : PySem.W.keepIn K (.ref fa) = true) (m : PySem.W.makesIn K Cc = true) (n : PySem.W.keepIn K (.ref Cc) = true) : ClsFacts K x q st Cc := ⟨_, _, _, _, _, _, _, _, _, _, a, b, l, c, k, m, n⟩
theorem mkStr {K : PySem.W.Frag} {x y : Str} {t : Tok} (a : PySem.W.nsIn K mainGlobals x = some (some (.str y t))) : ∃ t, PySem.W.nsIn K mainGlobals x = some (some (.str y t)) := ⟨t, a⟩
theorem mkInt {K : PySem.W.Frag} {x : Str} {y : Int} {t : Tok} (a : PySem.W.nsIn K mainGlobals x = some (some (.int y t))) : ∃ t, PySem.W.nsIn K mainGlobals x = some (some (.int y t)) := ⟨t, a⟩
def ClsK (K : PySem.W.Frag) (C : Addr) : Prop := (PySem.W.clsIn K C).isSome = true ∧ PySem.W.typeIn K (.ref C) = some (.type "type")
theorem mkClsK {K : PySem.W.Frag} {C : Addr} {oc : Value} {od : Option Addr} {cd : ClassData} {sl : Array (Option Value)} (a : K.lookup C = some ⟨oc, od, .cls cd, sl⟩) (b : PySem.W.typeIn K (.ref C) = some (.type "type")) : ClsK K C := ⟨by unfold PySem.W.clsIn; rw [a]; rfl, b⟩
theorem kit_tc {K : PySem.W.Frag} {t : String} {C : Addr} (a : ClsK K C) (c : PySem.W.subIn K (.type t) (.ref C) = some false) : PySem.W.kitOne K (.type t) (.ref C) = some false := by
  unfold PySem.W.kitOne PySem.W.kitCls
  rw [if_neg (by simp)]
  dsimp only
  rw [a.1, a.2, if_pos (by decide), c]
theorem kit_ct {K : PySem.W.Frag} {t : String} {C : Addr} (a : PySem.W.kitMeta t = true) (c : PySem.W.subIn K (.ref C) (.type t) = some false) : PySem.W.kitOne K (.ref C) (.type t) = some false := by
  unfold PySem.W.kitOne PySem.W.kitCls
  rw [if_neg (by simp)]
  dsimp only
  rw [if_pos a, c]
def ClsSub (K : PySem.W.Frag) (C : Addr) : Prop := ∀ t ∈ (["NoneType", "bool", "int", "str", "tuple", "list", "dict"] : List String), PySem.W.subIn K (.type t) (.ref C) = some false ∧ PySem.W.subIn K (.ref C) (.type t) = some false
theorem kits {K : PySem.W.Frag} {C : Addr} (a : ClsK K C) (b : ClsSub K C) : ∀ t ∈ (["NoneType", "bool", "int", "str", "tuple", "list", "dict"] : List String), PySem.W.kitOne K (.type t) (.ref C) = some false ∧ PySem.W.kitOne K (.ref C) (.type t) = some false := fun t ht => by
  obtain ⟨h1, h2⟩ := b t ht
  refine ⟨kit_tc a h1, kit_ct ?_ h2⟩
  simp only [List.mem_cons, List.not_mem_nil, or_false] at ht
  rcases ht with rfl | rfl | rfl | rfl | rfl | rfl | rfl <;> decide +kernel
theorem ac {α : Type} {Q : α → Prop} {a : α} {l : List α} (h : Q a) (k : ∀ x ∈ l, Q x) : ∀ x ∈ a :: l, Q x := fun x hx => by
  rcases List.mem_cons.mp hx with rfl | hx
  · exact h
  · exact k x hx
theorem an {α : Type} {Q : α → Prop} : ∀ x ∈ ([] : List α), Q x := fun _ h => nomatch h
def ClsGet (K : PySem.W.Frag) (Cc : Addr) (fl : List Str) : Prop := PySem.W.plainGet K Cc Str.empty = true ∧ PySem.W.hasDictIn K Cc = true ∧ PySem.W.plainOver K Cc = true ∧ PySem.W.findIn K (.ref Cc) "__setattr__" = some (some (.builtin "object.__setattr__")) ∧ (∀ f ∈ fl, PySem.W.findIn K (.ref Cc) f = some none) ∧
  PySem.W.findIn K (.ref Cc) "__class__" = some (some (.builtin "object.__class__")) ∧ PySem.W.specialIn K (.builtin "object.__class__") "__get__" = some (some (.builtin "getset_descriptor.__get__")) ∧ PySem.W.takesIn K (.builtin "object.__class__") = some true ∧ PySem.W.mroIn K Cc (.type "object") = some true
section
variable {K : PySem.W.Frag} {h : Heap} {mg : Str → Option Value} {Γ : Glo} {pn : Pn} {F : Nat → Option Fn} {ini : Str → Option Nat} {x q : Str} {st : Stmt} {f np : Nat} {nw : Bool} {d : Fd}
/-- how a def's parameters are bound -/
def BindsOk (st : Stmt) (x q : Str) (ps : List Str) : Prop := ∀ (kV doc pm : Value) (an : Option Addr) (cdv ct : Value) (us : List Value), us.length = ps.length → bindArgs (PySem.W.fnOf x q (defArgs st) (defBody st) (defScope st) .none kV doc pm an cdv ct) ⟨us, []⟩ = pure (ps.zip us)
theorem defOk (X : K.In h) (G : h.Ns mainGlobals mg) (a : DefFacts K x st) (hF : F f = some (.d d)) (h1 : d.ps = np) (h2 : nw = true → d.kd = .new) (h3 : ∀ c, d.kd ≠ .init c) (S : FnScope d.ns (d.ns.take np) (defScope st)) (b : BindsOk st x x (d.ns.take np)) (hl : (d.ns.take np).length = np)
    (c : chkFd pn d (defScope st) (defBody st) = true) : DefOk K mg pn F x f np nw := by
  obtain ⟨fa, an, od, sl, oc, kV, dc, pm, cd, ct, a1, a2, a3, a4⟩ := a
  have Fu := fun_mk (st := st) a2 a3 a4
  exact ⟨st, fa, _, d, hF, h1, h2, h3, Fu, PySem.W.mg_of X G a1, S, Fu.binds b, hl, c⟩
theorem clsOk (X : K.In h) (G : h.Ns mainGlobals mg) {Cc : Addr} (aC : PySem.W.nsIn K mainGlobals x = some (some (.ref Cc))) (a : ClsFacts K x q st Cc) (hF : F f = some (.d d)) (h1 : d.ps = np) (h2 : d.kd = .init x) (hi : ini x = some f) (hc : Γ.cA x = some Cc) (S : FnScope d.ns (d.ns.take np) (defScope st)) (b : BindsOk st "__init__" q (d.ns.take np)) (hl : (d.ns.take np).length = np)
    (c : chkFd pn d (defScope st) (defBody st) = true) : ClsOk K mg Γ pn F ini x f np := by
  obtain ⟨fa, an, od, sl, oc, kV, dc, pm, cd, ct, a1, a2, a3, a4, a5, a6, a7⟩ := a
  have Fu := fun_mk (st := st) a3 a4 a5
  exact ⟨st, Cc, fa, q, _, d, hF, h1, h2, Fu, hi, hc, PySem.W.mg_of X G aC, ⟨a6, a1, a2, a7⟩, S, Fu.binds b, hl, c⟩
theorem lookup_all {α : Type} {P : Str → α → Prop} : ∀ {l : List (Str × α)} {x : Str} {v : α}, (∀ p ∈ l, P p.1 p.2) → l.lookup x = some v → P x v
  | [], _, _, _, h => by cases h
  | (y, w) :: l, x, v, a, h => by
    rw [List.lookup_cons] at h
    cases e : x == y with
    | true =>
      rw [e] at h
      have : x = y := by simpa using e
      cases h
      subst this
      exact a (x, w) List.mem_cons_self
    | false => rw [e] at h; exact lookup_all (fun p hp => a p (List.mem_cons_of_mem _ hp)) h
theorem reps_ints {Γ : Glo} {Hm : Hp} {i : List Addr} : ∀ ns : List Int, Reps Γ Hm i (ns.map V.int) (ns.map D.int)
  | [] => .nil
  | n :: ns => .cons (.int n) (reps_ints ns)
/-- the law's def, called with the script -/
theorem law_sp {Γ : Glo} {F : Nat → Option Fn} {ini : Str → Option Nat} {W n f : Nat} {H : Hp} {a : Addr} {ns : List Int} {m : List D} (hS : SqL Γ.K H a (ns.map V.int)) (hp : call F ini W n f [.lst (ns.map .int)] [] = .ok (.bl true) m) :
    spM Γ .any 1 (call F ini W n f) [.ref a] H (fun v _ => v = .bl true) fun _ _ _ => False := by
  refine ⟨rfl, H, [], [.lst (ns.map .int)], [], Le.refl _, .cons (.lst hS (reps_ints ns)) .nil, ⟨fun n d e => by simp at e, rfl, List.nodup_nil⟩, ?_⟩
  rw [hp]
  intro Hm' i' H' v _ r
  have r : Rep Γ Hm' i' v (.bl true) := r
  cases r
  rfl
/-- THE WALK of a law -/
theorem walk_M {l : PySem.W.OpenLaw} {q : Program} {loose : List Str} {XP : (Str → Option Value) → Heap → Prop} {YP : World → Heap → Prop} {dr : DefRec} {K : Params → PySem.W.Frag} {F : Nat → Option Fn} {ini : Str → Option Nat} {pn : Pn} {W n f : Nat} {d : Fd} {st : Stmt} {lx : Str}
    (hn : l.most = some 63) (hdf : dr.params.defaults = []) (hr : Room (2 * (n + 1)) callerA) (hnm : dr.name = lx) (hY : ∀ (w : World) (h : Heap), YP w h → (K w.params).In h) (hF : F f = some (.d d)) (hps : d.ps = 1) (hkd : d.kd = .any) (S : FnScope d.ns (d.ns.take 1) (defScope st)) {x0 : Str} (hx : d.ns.take 1 = [x0])
    (b : BindsOk st lx lx (d.ns.take 1)) (hc : chkFd pn d (defScope st) (defBody st) = true) (hp : ∀ ns : List Int, ns.length ≤ 63 → ∃ m, call F ini W (n + 1) f [.lst (ns.map .int)] [] = .ok (.bl true) m)
    (hA : ∀ (w : World) (h : Heap), (K w.params).In h → DefFacts (K w.params) lx st ∧ ∃ Γ : Glo, Γ.K = K w.params ∧ ∀ (base : Heap) (mg : Str → Option Value), (K w.params).In h → h.Ns mainGlobals mg → POk l.prog w (K w.params) mg base Γ pn F ini) :
    PySem.W.WalkO q loose XP YP l.row.toRowW dr [] (fun f vs => PySem.call f vs) := by
  refine L2.walk_ofE (n := 63) (k := 2 * (n + 1)) (CX := CX0) (x := x0) hn (by decide) hdf hr (fun w mg fa h hy hns hmg => ?_) fun _ _ _ _ z => z
  have KX := hY w h hy
  obtain ⟨a, Γ, eK, hp2⟩ := hA w h KX
  obtain ⟨fa', an, od, sl, oc, kV, dc, pm, cd, ct, a1, a2, a3, a4⟩ := a
  have Fu := fun_mk (st := st) a2 a3 a4
  have e := PySem.W.mg_of KX hns a1
  rw [hnm, e] at hmg
  cases hmg
  refine ⟨K w.params, PySem.W.fnOf lx lx (defArgs st) (defBody st) (defScope st) .none kV dc pm an cd ct, spM Γ .any 1 (call F ini W (n + 1) f), KX, fun s u => ?_, fun H a ns hl hO hS => ?_, fun base kb nb => ?_⟩
  · have z := b kV dc pm an cd ct [u] (by rw [hx]; rfl)
    rw [hx] at z
    exact .of_eq z
  · obtain ⟨m, hm⟩ := hp ns hl
    exact law_sp (by rw [eK]; exact hS) hm
  · have po := hp2 base mg KX hns
    have z := def_at (W := W) po (all_at po W n) hF hps (by rw [hkd]; intro c z; cases z) Fu S (by rw [hx]; rfl) hc
    rw [hkd, hx] at z
    exact z
end
end Mi
end
section
set_option maxRecDepth 100000
/-! Mi: the tables of sets: up to the mask 511. -/
namespace Mi
open PySem L2
/-- from each slot all slots are met -/
structure Full (m : Nat) : Prop where
  odd : m % 2 = 1
  all : ∀ {i j : Nat}, i ≤ m → j ≤ m → ∃ k, k ≤ m ∧ lcgI m i k = j
def inv511 : List Nat := [0, 1, 326, 495, 412, 365, 2, 379, 376, 281, 254, 327, 404, 261, 58, 339, 496, 305, 438, 415, 140, 413, 370, 43, 360, 73, 366, 247, 132, 309, 426, 3, 480, 97, 38, 335, 380, 461, 226, 219, 344, 377, 478, 167, 372, 357, 282, 179, 464, 401, 150, 255, 108, 509, 82, 395, 328, 169, 78, 87, 100, 405, 138, 355, 448, 193, 262, 175, 348, 45, 450, 59, 312, 473, 190, 7, 340, 453, 506, 19, 432, 497, 374, 95, 76, 93, 306, 235, 296, 265, 302, 439, 68, 501, 362, 195, 416, 289, 486, 15, 316, 141, 162, 411, 280, 57, 414, 359, 308, 37, 218, 371, 400, 81, 86, 447, 44, 189, 18, 75, 264, 361, 14, 279, 36, 85, 74, 35, 384, 385, 198, 367, 284, 237, 386, 251, 248, 153, 126, 199, 276, 133, 442, 211, 368, 177, 310, 287, 12, 285, 242, 427, 232, 457, 238, 119, 4, 181, 298, 387, 352, 481, 422, 207, 252, 333, 98, 91, 216, 249, 350, 39, 244, 229, 154, 51, 336, 273, 22, 127, 492, 381, 466, 267, 200, 41, 462, 471, 484, 277, 10, 227, 320, 65, 134, 47, 220, 429, 322, 443, 184, 345, 62, 391, 212, 325, 378, 403, 304, 369, 246, 479, 460, 477, 178, 107, 168, 137, 174, 311, 452, 373, 234, 67, 288, 161, 358, 399, 188, 13, 34, 283, 152, 441, 286, 231, 180, 421, 90, 243, 272, 465, 470, 319, 428, 61, 402, 459, 136, 233, 398, 151, 420, 469, 458, 419, 256, 257, 70, 239, 156, 109, 258, 123, 120, 25, 510, 71, 148, 5, 314, 83, 240, 49, 182, 159, 396, 157, 114, 299, 104, 329, 110, 503, 388, 53, 170, 259, 224, 353, 294, 79, 124, 205, 482, 475, 88, 121, 222, 423, 116, 101, 26, 435, 208, 145, 406, 511, 364, 253, 338, 139, 72, 425, 334, 343, 356, 149, 394, 99, 192, 449, 6, 431, 92, 301, 194, 315, 56, 217, 446, 263, 84, 197, 250, 275, 176, 241, 118, 351, 332, 349, 50, 491, 40, 9, 46, 183, 324, 245, 106, 451, 160, 33, 230, 271, 60, 397, 418, 155, 24, 313, 158, 103, 52, 293, 474, 115, 144, 337, 342, 191, 300, 445, 274, 331, 8, 105, 270, 23, 292, 341, 330, 291, 128, 129, 454, 111, 28, 493, 130, 507, 504, 409, 382, 455, 20, 389, 186, 467, 112, 433, 54, 31, 268, 29, 498, 171, 488, 201, 494, 375, 260, 437, 42, 131, 96, 225, 166, 463, 508, 77, 354, 347, 472, 505, 94, 295, 500, 485, 410, 307, 80, 17, 278, 383, 236, 125, 210, 11, 456, 297, 206, 215, 228, 21, 266, 483, 64, 321, 390, 303, 476, 173, 66, 187, 440, 89, 318, 135, 468, 69, 122, 147, 48, 113, 502, 223, 204, 221, 434, 363, 424, 393, 430, 55, 196, 117, 490, 323, 32, 417, 102, 143, 444, 269, 290, 27, 408, 185, 30, 487, 436, 165, 346, 499, 16, 209, 214, 63, 172, 317, 146, 203, 392, 489, 142, 407, 164, 213, 202, 163]
theorem inv_ok : ((List.range 512).all fun j => lcgN 511 (inv511.getD j 0) == j && decide (inv511.getD j 0 ≤ 511)) = true := by decide +kernel
theorem turn511 : lcgN 511 512 = 0 := by decide +kernel
theorem turn_mod : ∀ k, lcgN 511 (512 + k) = lcgN 511 k
  | 0 => turn511
  | k + 1 => by
    have e := turn_mod k
    show (lcgN 511 (512 + k) * 5 + 1) % 512 = (lcgN 511 k * 5 + 1) % 512
    rw [e]
theorem inv_at {j : Nat} (h : j ≤ 511) : ∃ b, b ≤ 511 ∧ lcgN 511 b = j := by
  have z := List.all_eq_true.mp inv_ok j (List.mem_range.mpr (by omega))
  rw [Bool.and_eq_true] at z
  exact ⟨_, of_decide_eq_true z.2, eq_of_beq z.1⟩
theorem full511 : Full 511 where
  odd := rfl
  all := fun {i j} hi hj => by
    obtain ⟨a, a1, a2⟩ := inv_at hi
    obtain ⟨b, b1, b2⟩ := inv_at hj
    subst a2
    by_cases c : a ≤ b
    · exact ⟨b - a, by omega, by rw [lcgN_add, show a + (b - a) = b by omega]; exact b2⟩
    · refine ⟨512 + b - a, by omega, ?_⟩
      rw [lcgN_add, show a + (512 + b - a) = 512 + b by omega, turn_mod]
      exact b2
theorem full_of {m : Nat} (h : MaskOk m) : Full m := ⟨mask_odd h, fun hi hj => lcgI_all h hi hj⟩
theorem full7 : Full 7 := full_of (.inl rfl)
theorem full31 : Full 31 := full_of (.inr (.inl rfl))
theorem full127 : Full 127 := full_of (.inr (.inr rfl))
theorem Full.run {m : Nat} (F : Full m) (h : Int) {j : Nat} (hj : j ≤ m) : ∃ n, n ≤ m + 12 ∧ runI m (SetTable.bits h) n = j := by
  obtain ⟨k, a, b⟩ := F.all (runI_le m (SetTable.bits h) 12) hj
  exact ⟨12 + k, by omega, (runI_tail (bits_lt h) k).trans b⟩
theorem Full.step {m : Nat} (F : Full m) (h : Int) {j : Nat} (hj : j ≤ m) : ∃ k, k < 10 * SetTable.turns m ∧ way m h k = j := by
  obtain ⟨n, a, b⟩ := F.run h hj
  obtain ⟨k, c, d⟩ := run_nth m (SetTable.bits h) n
  refine ⟨k, by unfold SetTable.turns; omega, ?_⟩
  show (nth m _ k).j = j
  rw [d]
  exact b
theorem way_in {m : Nat} (h : Int) (k : Nat) : way m h k ≤ m := by
  have a : SetTable.bits h % (m + 1) ≤ m := Nat.le_of_lt_succ (Nat.mod_lt _ (Nat.succ_pos m))
  obtain ⟨b, c, _⟩ := runEnd_bd a
  have z := nth_in k (runAt m (SetTable.bits h % (m + 1)) (SetTable.bits h)) (by show SetTable.bits h % (m + 1) + (SetTable.runEnd m _ - _) ≤ m; omega)
  exact Nat.le_trans (Nat.le_add_right _ _) z
/-- the table: each item is found again on its way -/
structure Tb (t : SetTable) (hs : List Int) : Prop where
  up : Ris t.place.toList
  no : t.dummies = #[]
  n : t.place.size = hs.length
  full : Full t.mask
  le : ∀ x ∈ t.place.toList, x ≤ t.mask
  met : ∀ (i : Nat) (h : Int) (j : Nat), hs[i]? = some h → t.place.toList[i]? = some j → ∃ k, way t.mask h k = j ∧ ∀ k', k' < k → way t.mask h k' ∈ t.place.toList
theorem Tb.free {t : SetTable} {hs : List Int} (T : Tb t hs) (l : hs.length ≤ t.mask) (h : Int) : ∃ K, K < 10 * SetTable.turns t.mask ∧ way t.mask h K ∉ t.place.toList ∧ ∀ k, k < K → way t.mask h k ∈ t.place.toList := by
  obtain ⟨j, j1, j2⟩ := st_missing t.place.toList (t.mask + 1) (by rw [Array.length_toList, T.n]; omega)
  obtain ⟨k, k1, k2⟩ := T.full.step h (Nat.le_of_lt_succ j1)
  obtain ⟨K, a, b, c⟩ := st_least (p := fun k => way t.mask h k ∉ t.place.toList) k (by rw [k2]; exact j2)
  exact ⟨K, by omega, b, fun k' hk => Classical.not_not.mp (c k' hk)⟩
theorem Tb.ahead {t : SetTable} {hs : List Int} (T : Tb t hs) {h : Int} {K i j : Nat} (hK : way t.mask h K ∉ t.place.toList) (hi : hs[i]? = some h) (hj : t.place.toList[i]? = some j) : ∃ k, k < K ∧ way t.mask h k = j := by
  obtain ⟨k, e, b⟩ := T.met i h j hi hj
  by_cases c : k < K
  · exact ⟨k, c, e⟩
  · by_cases d : k = K
    · subst d
      rw [e] at hK
      exact absurd (List.mem_of_getElem? hj) hK
    · exact absurd (b K (by omega)) hK
theorem Tb.put {t : SetTable} {hs : List Int} (T : Tb t hs) {h : Int} {K p : Nat} (hp : SetTable.below t.place (way t.mask h K) = p) (hK : way t.mask h K ∉ t.place.toList) (hb : ∀ k, k < K → way t.mask h k ∈ t.place.toList) :
    p ≤ hs.length ∧ Tb (t.put (way t.mask h K)).1 (hs.take p ++ h :: hs.drop p) ∧ (t.put (way t.mask h K)).1.fill = hs.length + 1 := by
  have jm := way_in (m := t.mask) h K
  generalize hj : way t.mask h K = j at *
  obtain ⟨c1, _, _⟩ := below_cut T.up j
  rw [hp] at c1
  have np : t.place[p]? ≠ some j := fun e => hK (List.mem_of_getElem? (by rw [Array.getElem?_toList]; exact e))
  have pl : p ≤ t.place.toList.length := by rw [Array.length_toList]; exact c1
  have ph : p ≤ hs.length := by rw [← T.n]; exact c1
  have pp := put_place t j
  rw [hp] at pp
  have sz : (t.put j).1.place.size = hs.length + 1 := by rw [← Array.length_toList, pp, len_ins _ pl, Array.length_toList, T.n]
  have sub : ∀ x, x ∈ t.place.toList → x ∈ (t.put j).1.place.toList := fun x hx => by rw [pp]; exact mem_ins.mpr (.inr hx)
  refine ⟨ph, ⟨ris_insert T.up (by rw [hp]; exact np), put_dm T.no j, by rw [sz, len_ins _ ph], T.full, fun x hx => ?_, fun i h' j' e1 e2 => ?_⟩, ?_⟩
  · rw [pp] at hx
    rcases mem_ins.mp hx with z | z
    · subst z; exact jm
    · exact T.le x z
  · rw [tins_get hs ph] at e1
    rw [pp, tins_get _ pl] at e2
    have old : ∀ i, hs[i]? = some h' → t.place.toList[i]? = some j' → ∃ k, way t.mask h' k = j' ∧ ∀ k', k' < k → way t.mask h' k' ∈ (t.put j).1.place.toList := fun i a b => by
      obtain ⟨k, x, y⟩ := T.met i h' j' a b
      exact ⟨k, x, fun k' z => sub _ (y k' z)⟩
    by_cases c : i < p
    · rw [if_pos c] at e1 e2
      exact old i e1 e2
    · rw [if_neg c] at e1 e2
      by_cases d : i = p
      · rw [if_pos d] at e1 e2
        cases e1
        cases e2
        exact ⟨K, hj, fun k' z => sub _ (hb k' z)⟩
      · rw [if_neg d] at e1 e2
        exact old (i - 1) e1 e2
  · show (t.put j).1.place.size + (t.put j).1.dummies.size = hs.length + 1
    rw [sz, put_dm T.no j]
    rfl
theorem Full.find {m : Nat} (F : Full m) (owner : Array (Option Nat)) (h : Int) {j : Nat} (hj : j ≤ m) (hf : oAt owner j = none) :
    ∃ K, SetTable.layClean.free m owner (SetTable.turns m) (SetTable.bits h % (m + 1)) (SetTable.bits h) = some (way m h K) ∧ oAt owner (way m h K) = none ∧ ∀ k, k < K → oAt owner (way m h k) ≠ none := by
  obtain ⟨n, n1, n2⟩ := F.run h hj
  have hw : way m h (off m (SetTable.bits h % (m + 1)) (SetTable.bits h) n) = j := by
    show (nth m _ _).j = j
    rw [nth_off, itL_run]
    exact n2
  obtain ⟨K, a, b, c⟩ := st_least (p := fun k => oAt owner (way m h k) = none) _ (by rw [hw]; exact hf)
  refine ⟨K, free_spec m owner _ n _ _ K (by unfold SetTable.turns; omega) a (fun k hk => ?_) ?_, b, c⟩
  · have z := c k hk
    revert z
    show oAt owner (way m h k) ≠ none → (oAt owner (way m h k)).isNone = false
    cases oAt owner (way m h k) <;> simp
  · show (oAt owner (way m h K)).isNone = true
    rw [b]
    rfl
theorem own_next {m : Nat} (F : Full m) {done : List Int} {owner : Array (Option Nat)} (W : Own m done owner) (l : done.length ≤ m) (h : Int) :
    ∃ j, SetTable.layClean.free m owner (SetTable.turns m) (SetTable.bits h % (m + 1)) (SetTable.bits h) = some j ∧ Own m (done ++ [h]) (owner.setIfInBounds j (some done.length)) := by
  obtain ⟨ps, p1, p2⟩ := W.ps
  obtain ⟨j0, a, b⟩ := st_missing ps (m + 1) (by omega)
  have j0m := Nat.le_of_lt_succ a
  have z : oAt owner j0 = none := Classical.byContradiction fun z => b (p2 j0 j0m z)
  obtain ⟨K, e1, e2, e3⟩ := F.find owner h j0m z
  have jm := way_in (m := m) h K
  refine ⟨_, e1, ?_⟩
  have js : way m h K < owner.size := by rw [W.sz]; exact Nat.lt_succ_of_le jm
  have at_new := oAt_set_self (some done.length) js
  have at_old : ∀ {x : Nat}, x ≠ way m h K → oAt (owner.setIfInBounds (way m h K) (some done.length)) x = oAt owner x := fun {x} c => oAt_set_ne _ c
  have taken : ∀ {x : Nat}, oAt owner x ≠ none → oAt (owner.setIfInBounds (way m h K) (some done.length)) x ≠ none := fun {x} q => by
    by_cases c : x = way m h K
    · rw [c, at_new]; simp
    · rw [at_old c]; exact q
  constructor
  · rw [Array.size_setIfInBounds]; exact W.sz
  · intro x k hx e
    by_cases c : x = way m h K
    · subst c
      rw [at_new] at e
      cases e
      exact ⟨h, K, by simp, rfl, fun k' q => taken (e3 k' q)⟩
    · rw [at_old c] at e
      obtain ⟨h', K', u1, u2, u3⟩ := W.at_ x k hx e
      exact ⟨h', K', by rw [List.getElem?_append_left (List.getElem?_eq_some_iff.mp u1).1]; exact u1, u2, fun k' q => taken (u3 k' q)⟩
  · intro k hk
    rw [List.length_append, List.length_singleton] at hk
    by_cases c : k < done.length
    · obtain ⟨x, hx, e⟩ := W.all k c
      refine ⟨x, hx, ?_⟩
      rw [at_old (fun q => by rw [q, e2] at e; cases e)]
      exact e
    · have : k = done.length := by omega
      subst this
      exact ⟨_, jm, at_new⟩
  · refine ⟨way m h K :: ps, by simp [p1], fun x hx e => ?_⟩
    by_cases c : x = way m h K
    · rw [c]; exact List.mem_cons_self
    · rw [at_old c] at e
      exact List.mem_cons_of_mem _ (p2 x hx e)
theorem all_laid {m : Nat} (F : Full m) : ∀ (rest done : List Int) (owner : Array (Option Nat)), Own m done owner → done.length + rest.length ≤ m →
    ∃ o', rest.foldl (stepF m) (some (owner, done.length)) = some (o', done.length + rest.length) ∧ Own m (done ++ rest) o'
  | [], done, owner, W, _ => ⟨owner, rfl, by simpa using W⟩
  | h :: rest, done, owner, W, l => by
    have l' : done.length + (rest.length + 1) ≤ m := l
    obtain ⟨j, e, W'⟩ := own_next F W (by omega) h
    have ln : (done ++ [h]).length = done.length + 1 := by simp
    obtain ⟨o', f, W2⟩ := all_laid F rest (done ++ [h]) _ W' (by rw [ln]; omega)
    refine ⟨o', ?_, by simpa using W2⟩
    rw [List.foldl_cons, stepF_some e]
    rw [ln] at f
    rw [f]
    simp only [List.length_cons]
    rw [show done.length + 1 + rest.length = done.length + (rest.length + 1) by omega]
theorem relay_ok (t : SetTable) {hs : Array Int} {wanted M : Nat} (hw : SetTable.sizeAbove wanted - 1 = M) (F : Full M) (l : hs.size ≤ M) :
    ∃ t' order, t.relaid hs wanted = some (t', order) ∧ order.toList.Perm (List.range hs.size) ∧ Tb t' (order.toList.map fun i => hs.getD i 0) ∧ t'.mask = M ∧ t'.led = t.led ∧ t'.plain = t.plain ∧ t'.dummies = #[] := by
  obtain ⟨owner, f, W⟩ := all_laid F hs.toList [] _ (Own.init M) (by simpa using l)
  have f0 : hs.toList.foldl (stepF M) (some (Array.replicate (M + 1) none, 0)) = some (owner, ([] : List Int).length + hs.toList.length) := f
  have W : Own M hs.toList owner := W
  have e : SetTable.layClean M hs = some owner := by rw [layClean_eq, f0]; rfl
  have live := fun {j k : Nat} => mem_live (m := M) (owner := owner) W.sz (j := j) (k := k)
  obtain ⟨r1, r2⟩ := ris_live (fun j => owner.getD j none) (List.range (M + 1)) List.pairwise_lt_range
  have r1 : Ris ((liveOf M owner).map (·.1)) := r1
  have r2 : ∀ x ∈ (liveOf M owner).map (·.1), x ∈ List.range (M + 1) := r2
  have every : ∀ k, k < hs.size → k ∈ (liveOf M owner).map (·.2) := fun k hk => by
    obtain ⟨j, a, b⟩ := W.all k (by simpa using hk)
    exact List.mem_map.mpr ⟨(j, k), live.mpr ⟨a, b⟩, rfl⟩
  have cnt : ((liveOf M owner).map (·.2)).length = hs.size := by
    obtain ⟨ps, p1, p2⟩ := W.ps
    have up := nat_nodup_len _ ps (r1.imp Nat.ne_of_lt) fun x hx => by
      obtain ⟨⟨y, k⟩, hq, rfl⟩ := List.mem_map.mp hx
      obtain ⟨a, b⟩ := live.mp hq
      exact p2 y a (by rw [b]; simp)
    have dn := nat_nodup_len (List.range hs.size) _ List.nodup_range fun k hk => every k (List.mem_range.mp hk)
    simp only [List.length_map, List.length_range, Array.length_toList] at up dn p1 ⊢
    omega
  refine ⟨tabOf t M owner, ((liveOf M owner).map (·.2)).toArray, ?_, ?_, ⟨r1, rfl, ?_, F, fun x hx => ?_, fun i h j e1 e2 => ?_⟩, rfl, rfl, rfl, rfl⟩
  · rw [relaid_eq, hw, e]; rfl
  · exact perm_range hs.size _ cnt every
  · show ((liveOf M owner).map (·.1)).toArray.size = _
    simp
  · exact Nat.le_of_lt_succ (List.mem_range.mp (r2 x hx))
  · have e1 : (((liveOf M owner).map (·.2)).map fun i => hs.getD i 0)[i]? = some h := e1
    have e2 : ((liveOf M owner).map (·.1))[i]? = some j := e2
    rw [List.getElem?_map] at e2
    obtain ⟨⟨y, k⟩, q1, q2⟩ := Option.map_eq_some_iff.mp e2
    rw [List.getElem?_map, List.getElem?_map, q1] at e1
    cases q2
    obtain ⟨a, b⟩ := live.mp (List.mem_of_getElem? q1)
    obtain ⟨h0, K, a1, a2, a3⟩ := W.at_ _ k a b
    have eh : h0 = h := by
      have z : hs.getD k 0 = h := Option.some.inj e1
      rw [← z, Array.getD_eq_getD_getElem?, ← Array.getElem?_toList, a1]
      rfl
    subst eh
    refine ⟨K, a2, fun k' q => ?_⟩
    show way M h0 k' ∈ (liveOf M owner).map (·.1)
    cases z : oAt owner (way M h0 k') with
    | none => exact absurd z (a3 k' q)
    | some k2 => exact List.mem_map.mpr ⟨(_, k2), live.mpr ⟨way_in _ _, z⟩, rfl⟩
theorem size_308 : SetTable.sizeAbove (SetTable.grown 77) = 512 := by decide +kernel
end Mi
end
section
set_option maxRecDepth 100000
/-! Mi: sets of tuples: search, adding. -/
namespace Mi
open PySem PySem.Spec PyProof.Rows L2
section
variable {P : Program} {w : World} {A : Around} {E : Value → Shared → Prop} {s : Shared}
/-! ### small questions asked of keys -/
/-- it is of no class of a class statement, n levels down -/
def NoCls (P : Program) (w : World) (n : Nat) (s : Shared) (v : Value) : Prop := ∀ (A : Around) (E : Value → Shared → Prop) (Q : Bool → Shared → Prop), Q false s → wpAny (model P w) A (ofAClassStatement n v) Q E s
theorem noCls_tup {n : Nat} {a : Addr} {o : Obj} {vs : Array Value} {m : Nat} (ho : s.heap.get? a = some o) (hc : o.cls = .type "tuple") (hd : o.data = .seq vs m) (hv : ∀ v ∈ vs.toList, NoCls P w n s v) : NoCls P w (n + 1) s (.ref a) := fun A E Q h => by
  unfold ofAClassStatement
  refine wpAny_bind (wpAny_typeOf (T := "tuple") ⟨o, ho, hc⟩ ?_)
  dsimp only
  have e : (("tuple" : String) == "tuple") = true := by decide
  simp only [e, if_true]
  try refine wpAny_bind (wpAny_pure ?_)
  simp only [Bool.not_true, Bool.false_eq_true, if_false]
  show wpAny _ _ (seqItems? (.ref a) >>= _) _ _ s
  refine wpAny_bind (wpAny_seqItems ho hd (wpAny_bind ?_))
  show wpAny _ _ (forIn vs _ _) _ _ s
  rw [← Array.forIn_toList]
  refine wpAny_forIn_list _ (fun rest r s' => s' = s ∧ r.1 = none ∧ ∀ v ∈ rest, NoCls P w n s v) _ ?_ ?_ _ _ ⟨rfl, rfl, hv⟩
  · rintro v rest r _ ⟨rfl, _, hall⟩
    refine wpAny_bind (hall v List.mem_cons_self _ _ _ ?_)
    simp only [Bool.false_eq_true, if_false]
    exact wpAny_pure ⟨rfl, rfl, fun u hu => hall u (List.mem_cons_of_mem _ hu)⟩
  · rintro ⟨r1, r2⟩ _ ⟨rfl, e, _⟩
    simp only at e
    subst e
    exact wpAny_pure h
mutual
theorem noCls_key : ∀ (k : NestedKey) (v : Value) (n : Nat) (s : Shared), NestedIs s.heap k v → k.depth ≤ n → NoCls P w n s v
  | .none, _, n, s, x, _ => by cases x; intro A E Q h; cases n <;> exact wpAny_pure h
  | .num i, _, n, s, x, _ => by cases x <;> (intro A E Q h; cases n <;> exact wpAny_pure h)
  | .text y, _, n, s, x, _ => by cases x; intro A E Q h; cases n <;> exact wpAny_pure h
  | .tup ks, _, n, s, x, l => by
    cases x with
    | tup h1 h2 h3 h4 =>
      simp only [NestedKey.depth] at l
      cases n with
      | zero => omega
      | succ n => exact noCls_tup h1 h2 h3 (noCls_keys ks _ n s h4 (by omega))
theorem noCls_keys : ∀ (ks : List NestedKey) (vs : List Value) (n : Nat) (s : Shared), NestedAll s.heap ks vs → NestedKey.depthAll ks ≤ n → ∀ v ∈ vs, NoCls P w n s v
  | [], _, n, s, x, _, v, hv => by cases x; cases hv
  | k :: ks, _, n, s, x, l, v, hv => by
    cases x with
    | cons x1 x2 =>
      simp only [NestedKey.depthAll] at l
      rcases List.mem_cons.mp hv with e | hv
      · rw [e]; exact noCls_key k _ n s x1 (by omega)
      · exact noCls_keys ks _ n s x2 (by omega) v hv
end
/-- whether its hash is the value's is answered -/
def HbAny (P : Program) (w : World) (n : Nat) (s : Shared) (v : Value) : Prop := ∀ (A : Around) (E : Value → Shared → Prop) (Q : Bool → Shared → Prop), (∀ b, Q b s) → wpAny (model P w) A (hashByValue n v) Q E s
theorem hbAny_tup {n : Nat} {a : Addr} {o : Obj} {vs : Array Value} {m : Nat} (ho : s.heap.get? a = some o) (hc : o.cls = .type "tuple") (hd : o.data = .seq vs m) (hv : ∀ v ∈ vs.toList, HbAny P w n s v) : HbAny P w (n + 1) s (.ref a) := fun A E Q h => by
  unfold hashByValue
  refine wpAny_bind (wpAny_specialOf (T := "tuple") ⟨o, ho, hc⟩ PySem.F.slot_tuple_hash.lookup ?_)
  show wpAny _ _ (seqItems? (.ref a) >>= _) _ _ s
  refine wpAny_bind (wpAny_seqItems ho hd (wpAny_bind ?_))
  show wpAny _ _ (forIn vs _ _) _ _ s
  rw [← Array.forIn_toList]
  refine wpAny_forIn_list _ (fun rest r s' => s' = s ∧ r.1 = none ∧ ∀ v ∈ rest, HbAny P w n s v) _ ?_ ?_ _ _ ⟨rfl, rfl, hv⟩
  · rintro v rest r _ ⟨rfl, _, hall⟩
    refine wpAny_bind (hall v List.mem_cons_self _ _ _ fun b => ?_)
    cases b with
    | true =>
      simp only [Bool.not_true, Bool.false_eq_true, if_false]
      exact wpAny_pure ⟨rfl, rfl, fun u hu => hall u (List.mem_cons_of_mem _ hu)⟩
    | false =>
      simp only [Bool.not_false, if_true]
      exact wpAny_pure (wpAny_pure (h false))
  · rintro ⟨r1, r2⟩ _ ⟨rfl, e, _⟩
    simp only at e
    subst e
    exact wpAny_pure (h true)
mutual
theorem hbAny_key : ∀ (k : NestedKey) (v : Value) (n : Nat) (s : Shared), NestedIs s.heap k v → k.depth ≤ n → HbAny P w n s v
  | .none, _, n, s, x, _ => by cases x; intro A E Q h; cases n <;> exact wpAny_pure (h _)
  | .num i, _, n, s, x, _ => by cases x <;> (intro A E Q h; cases n <;> exact wpAny_pure (h _))
  | .text y, _, n, s, x, _ => by cases x; intro A E Q h; cases n <;> exact wpAny_pure (h _)
  | .tup ks, _, n, s, x, l => by
    cases x with
    | tup h1 h2 h3 h4 =>
      simp only [NestedKey.depth] at l
      cases n with
      | zero => omega
      | succ n => exact hbAny_tup h1 h2 h3 (hbAny_keys ks _ n s h4 (by omega))
theorem hbAny_keys : ∀ (ks : List NestedKey) (vs : List Value) (n : Nat) (s : Shared), NestedAll s.heap ks vs → NestedKey.depthAll ks ≤ n → ∀ v ∈ vs, HbAny P w n s v
  | [], _, n, s, x, _, v, hv => by cases x; cases hv
  | k :: ks, _, n, s, x, l, v, hv => by
    cases x with
    | cons x1 x2 =>
      simp only [NestedKey.depthAll] at l
      rcases List.mem_cons.mp hv with e | hv
      · rw [e]; exact hbAny_key k _ n s x1 (by omega)
      · exact hbAny_keys ks _ n s x2 (by omega) v hv
end
/-- p.1 is a tuple, the key p.2 -/
def Kv (h : Heap) (p : Value × NestedKey) : Prop := NestedIs h p.2 p.1 ∧ p.2.depth ≤ 8 ∧ ∃ b, p.1 = .ref b
theorem unseen {x : Value × NestedKey} {Q : Bool → Shared → Prop} (hx : Kv s.heap x) {ys : List Value} (hy : ∀ y ∈ ys, ∃ k, Kv s.heap (y, k)) (h : Q false s) : wpAny (model P w) A (searchCouldBeSeen x.1 ys) Q E s := by
  obtain ⟨x, kx⟩ := x
  obtain ⟨h1, h2, b, hb⟩ := hx
  have hb : x = .ref b := hb
  subst hb
  unfold searchCouldBeSeen
  refine wpAny_bind (wpAny_forIn_list _ (fun rest r s' => s' = s ∧ r.1 = none ∧ ∀ y ∈ rest, ∃ k, Kv s.heap (y, k)) _ ?_ ?_ _ _ ⟨rfl, rfl, hy⟩)
  · rintro v rest r s' ⟨hs, _, hall⟩
    obtain rfl : s = s' := hs.symm
    obtain ⟨k, v1, v2, c, hc⟩ := hall v List.mem_cons_self
    have hc : v = .ref c := hc
    subst hc
    have next : ∀ y ∈ rest, ∃ k, Kv s.heap (y, k) := fun y q => hall y (List.mem_cons_of_mem _ q)
    dsimp only
    by_cases hv : (b == c || (carriedByValue (.ref b) && carriedByValue (.ref c))) = true
    · exact wp_if_pos hv (wpAny_pure ⟨rfl, rfl, next⟩)
    · refine wp_if_neg hv ?_
      refine wpAny_bind (quiet_key kx _ 8 s h1 h2 _ _ _ ?_)
      simp only [Bool.not_true, Bool.false_eq_true, if_false]
      refine wpAny_bind (quiet_key k _ 8 s v1 v2 _ _ _ ?_)
      simp only [Bool.not_true, Bool.false_eq_true, if_false]
      refine wpAny_bind (noCls_key kx _ 8 s h1 h2 _ _ _ ?_)
      simp only [Bool.false_eq_true, if_false]
      refine wpAny_bind (noCls_key k _ 8 s v1 v2 _ _ _ ?_)
      simp only [Bool.false_eq_true, if_false]
      exact wpAny_pure ⟨rfl, rfl, next⟩
  · rintro ⟨r1, r2⟩ _ ⟨rfl, e, _⟩
    simp only at e
    subst e
    exact wpAny_pure h

/-! ### the set -/
def rowsK (w : World) (L : List (Value × NestedKey)) : List (Int × Value) := L.map fun p => (p.2.hash w, p.1)
abbrev hashesK (w : World) (L : List (Value × NestedKey)) : List Int := L.map fun p => p.2.hash w
structure TS (w : World) (h : Heap) (a : Addr) (L : List (Value × NestedKey)) (es : Array (Int × Value)) (ep : Nat) (t : SetTable) : Prop where
  ob : ∃ o, h.get? a = some o ∧ o.ExactSet ∧ o.data = .set es ep t
  rows : es.toList = rowsK w L
  tab : Tb t (hashesK w L)
  nd : (L.map (·.2)).Nodup
  key : ∀ p ∈ L, Kv h p
  led : w.params.followText "set-order" = true ∨ t.led = true
  room : L.length * 5 < t.mask * 3
  msk : t.mask = 7 ∨ t.mask = 31 ∨ t.mask = 127 ∨ t.mask = 511
variable {a : Addr} {L : List (Value × NestedKey)} {es : Array (Int × Value)} {ep : Nat} {t : SetTable}
theorem TS.size {h : Heap} (R : TS w h a L es ep t) : es.size = L.length := by
  rw [← Array.length_toList, R.rows]
  unfold rowsK
  exact List.length_map _
theorem TS.fits {h : Heap} (R : TS w h a L es ep t) : t.fits es.size = true := by
  have z1 := R.tab.n
  have z2 := R.size
  have z3 := R.room
  rw [List.length_map] at z1
  unfold SetTable.fits SetTable.fill
  rw [R.tab.no, z1, z2]
  simp only [beq_self_eq_true, Bool.true_and, decide_eq_true_eq]
  show L.length + 0 ≤ _
  omega
theorem TS.at (R : TS w s.heap a L es ep t) {i : Nat} {p : Value × NestedKey} (h : L[i]? = some p) : es[i]? = some (p.2.hash w, p.1) := by
  rw [← Array.getElem?_toList, R.rows, rowsK, List.getElem?_map, h]
  rfl
theorem TS.stays (R : TS w s.heap a L es ep t) : ¬ t.gaveWay = true := by
  unfold SetTable.gaveWay
  rw [R.tab.full.odd]
  decide
abbrev pr0 (t : SetTable) (h : Int) : SetTable.Probe := runAt t.mask (SetTable.bits h % (t.mask + 1)) (SetTable.bits h)
theorem no_dummy (m : Nat) : ∀ (n : Nat) (p : SetTable.Probe), p.dummy = none → (nth m p n).dummy = none
  | 0, _, h => h
  | n + 1, p, h => no_dummy m n (adv m p) (by unfold adv; split <;> exact h)
/-- the search from the c-th step of the way on -/
theorem look_from (R : TS w s.heap a L es ep t) {x : Value} {k : NestedKey} (hx : Kv s.heap (x, k)) (hu : A.units + 8 < cLine) {K : Nat} (hf : K < 10 * SetTable.turns t.mask)
    (hK : way t.mask (k.hash w) K ∉ t.place.toList) (hb : ∀ c, c < K → way t.mask (k.hash w) c ∈ t.place.toList) {Q : SetFound → Shared → Prop}
    (yes : k ∈ L.map (·.2) → Q (.there none) s) (no : k ∉ L.map (·.2) → Q (.free (way t.mask (k.hash w) K) false) s) :
    ∀ (f c : Nat) (stand : Option SetTable.Probe), stand.getD (t.probeStart (k.hash w)) = nth t.mask (pr0 t (k.hash w)) c → c ≤ K → K - c < f →
      (∀ (i : Nat) (p : Value × NestedKey), L[i]? = some p → p.2 = k → ∃ c', c ≤ c' ∧ c' < K ∧ t.place.toList[i]? = some (way t.mask (k.hash w) c')) →
      wpAny (model P w) A (setSearchFrom a x (k.hash w) true f stand) Q E s
  | 0, _, _, _, _, z, _ => absurd z (Nat.not_lt_zero _)
  | f + 1, c, stand, st, hc, hfu, hre => by
    obtain ⟨o, ho, hex, hd⟩ := R.ob
    have step : ∀ q, nth t.mask (nth t.mask (pr0 t (k.hash w)) c) q = nth t.mask (pr0 t (k.hash w)) (c + q) := fun q => (nth_add _ _ _ _).symm
    have stepj : ∀ q, (nth t.mask (nth t.mask (pr0 t (k.hash w)) c) q).j = way t.mask (k.hash w) (c + q) := fun q => congrArg SetTable.Probe.j (step q)
    have hat : ∀ (i : Nat) (p : Value × NestedKey), L[i]? = some p → (es[i]?.map (·.1)).getD 0 = p.2.hash w := fun i p hp => by rw [R.at hp]; rfl
    have spec := go_spec t R.tab.up R.tab.no (fun i => (es[i]?.map (·.1)).getD 0) (k.hash w) (10 * SetTable.turns t.mask) (K - c) _ (no_dummy t.mask c (pr0 t (k.hash w)) rfl) (by omega)
      (fun q hq => by rw [stepj]; exact hb _ (by omega)) (by rw [stepj, show c + (K - c) = K by omega]; exact hK)
    rw [setSearchFrom_succ]
    refine wpAny_bind (wpAny_setState_of ho hd R.fits ?_)
    dsimp only
    refine wp_if_neg R.stays ?_
    try refine wpAny_bind (wpAny_pure ?_)
    rw [st]
    rcases spec with ⟨q, i, hq, hi, hh, hno, hp⟩ | ⟨hno, hp⟩
    · have hp : t.probe (fun i => (es[i]?.map (·.1)).getD 0) (k.hash w) (nth t.mask (pr0 t (k.hash w)) c) = some (.candidate (way t.mask (k.hash w) (c + q)) i (nth t.mask (pr0 t (k.hash w)) (c + (q + 1)))) := by
        rw [← stepj, ← step]; exact hp
      rw [hp]
      dsimp only
      rw [stepj] at hi
      obtain ⟨p, hpi⟩ : ∃ p, L[i]? = some p := by
        have z1 := (List.getElem?_eq_some_iff.mp hi).1
        have z2 := R.tab.n
        rw [List.length_map] at z2
        rw [Array.length_toList, z2] at z1
        exact ⟨_, List.getElem?_eq_getElem z1⟩
      have hpm := List.mem_of_getElem? hpi
      obtain ⟨p1, p2, b, p3⟩ := R.key p hpm
      have hslot := slot_live R.tab.up hi
      have rest : wpAny (model P w) A (searchRest a x (k.hash w) true f es t (way t.mask (k.hash w) (c + q)) i (nth t.mask (pr0 t (k.hash w)) (c + (q + 1)))) Q E s := by
        unfold searchRest
        rw [R.at hpi]
        dsimp only
        refine wpAny_bind (wpAny_holding (eqAt_key p.2 k A s p.1 x p1 hx.1 (by omega) _ _ _ _ ?_))
        refine wpAny_bind (wpAny_setState_of ho hd R.fits ?_)
        dsimp only
        rw [← NestedKey.decide_eq]
        by_cases hkk : p.2 = k
        · refine wp_if_pos (by simp [hkk]) (wpAny_pure (yes (List.mem_map.mpr ⟨p, hpm, hkk⟩)))
        · refine wp_if_neg (by simp [hkk]) ?_
          try refine wpAny_bind (wpAny_pure ?_)
          rw [sameMem]
          dsimp only
          simp only [if_true, hslot, R.at hpi]
          rw [p3]
          refine wpAny_bind (wpAny_isSame_ref_self (wpAny_bind (wpAny_pure ?_)))
          simp only [if_true]
          refine wp_if_neg (by simp [hkk]) ?_
          refine look_from R hx hu hf hK hb yes no f (c + (q + 1)) _ rfl (by omega) (by omega) fun i0 p0 h0 hk0 => ?_
          obtain ⟨c', a1, a2, a3⟩ := hre i0 p0 h0 hk0
          refine ⟨c', ?_, a2, a3⟩
          by_cases z : c' < c + q
          · refine absurd ?_ (hno (c' - c) i0 (by omega) (by rw [stepj, show c + (c' - c) = c' by omega]; exact a3))
            rw [hat i0 p0 h0, hk0]
          · by_cases y : c' = c + q
            · subst y
              have s0 := slot_live R.tab.up a3
              rw [hslot] at s0
              injection s0 with s0
              rw [← s0, hpi] at h0
              cases h0
              exact absurd hk0 hkk
            · omega
      by_cases hl : t.led = true
      · refine wp_if_neg (by simp [hl]) ?_
        try refine wpAny_bind (wpAny_pure ?_)
        exact rest
      · refine wp_if_pos (by simp [hl]) ?_
        refine wpAny_bind (unseen (x := (x, k)) hx (fun y hy => ?_) ?_)
        · obtain ⟨e, he, rfl⟩ := List.mem_map.mp hy
          have he : e ∈ es.toList := by
            have z : e ∈ es ∧ e.1 = k.hash w := by simpa using he
            simpa using z.1
          rw [R.rows] at he
          obtain ⟨p2, hp2, rfl⟩ := List.mem_map.mp he
          exact ⟨p2.2, R.key p2 hp2⟩
        · refine wp_if_neg (by decide) ?_
          try refine wpAny_bind (wpAny_pure ?_)
          exact rest
    · have hp : t.probe (fun i => (es[i]?.map (·.1)).getD 0) (k.hash w) (nth t.mask (pr0 t (k.hash w)) c) = some (.empty (way t.mask (k.hash w) K) none) := by
        have z := stepj (K - c)
        rw [show c + (K - c) = K by omega] at z
        rw [← z]; exact hp
      rw [hp]
      dsimp only
      refine wpAny_pure (no fun hm => ?_)
      obtain ⟨p0, h0, hk0⟩ := List.mem_map.mp hm
      obtain ⟨i0, h0⟩ := List.mem_iff_getElem?.mp h0
      obtain ⟨c', a1, a2, a3⟩ := hre i0 p0 h0 hk0
      refine hno (c' - c) i0 (by omega) (by rw [stepj, show c + (c' - c) = c' by omega]; exact a3) ?_
      rw [hat i0 p0 h0, hk0]
theorem look (R : TS w s.heap a L es ep t) {x : Value} {k : NestedKey} (hx : Kv s.heap (x, k)) (hu : A.units + 8 < cLine) {Q : SetFound → Shared → Prop} (yes : k ∈ L.map (·.2) → Q (.there none) s)
    (no : ∀ K, k ∉ L.map (·.2) → way t.mask (k.hash w) K ∉ t.place.toList → (∀ c, c < K → way t.mask (k.hash w) c ∈ t.place.toList) → Q (.free (way t.mask (k.hash w) K) false) s) :
    wpAny (model P w) A (setSearch a x (k.hash w) true) Q E s := by
  obtain ⟨K, h1, h2, h3⟩ := R.tab.free (by have := R.room; rw [List.length_map]; omega) (k.hash w)
  refine look_from R hx hu h1 h2 h3 yes (fun z => no K z h2 h3) 100000 0 none rfl (Nat.zero_le _) (by have := R.msk; unfold SetTable.turns at h1; omega) fun i p hp hk => ?_
  have hi : (hashesK w L)[i]? = some (k.hash w) := by rw [List.getElem?_map, hp, ← hk]; rfl
  obtain ⟨j, hj⟩ : ∃ j, t.place.toList[i]? = some j := by
    have z1 := (List.getElem?_eq_some_iff.mp hp).1
    have z2 := R.tab.n
    rw [List.length_map] at z2
    exact ⟨_, List.getElem?_eq_getElem (by rw [Array.length_toList, z2]; exact z1)⟩
  obtain ⟨c, c1, c2⟩ := R.tab.ahead h2 hi hj
  exact ⟨c, Nat.zero_le _, c1, by rw [hj, c2]⟩
end
end Mi
end
section
set_option maxRecDepth 100000
/-! Mi: sets of tuples: adding. -/
namespace Mi
open PySem PySem.Spec PyProof.Rows L2
section
variable {P : Program} {w : World} {A : Around} {E : Value → Shared → Prop} {s : Shared} {a : Addr} {L : List (Value × NestedKey)} {es : Array (Int × Value)} {ep : Nat} {t : SetTable}
theorem Kv.same {h h' : Heap} {p : Value × NestedKey} {o : Obj} (x : Kv h p) (ho : h.get? a = some o) (hd : o.data = .set es ep t) (sb : Heap.SameBut a h h') : Kv h' p :=
  ⟨x.1.at fun b u vs n e q => (sb.2 b fun c => by
    subst c
    rw [ho] at e
    cases e
    rw [hd] at q
    cases q).trans e, x.2⟩
theorem Kv.keep {h h' : Heap} {p : Value × NestedKey} (x : Kv h p) (k : ∀ b o, h.get? b = some o → h'.get? b = some o) : Kv h' p := ⟨x.1.at fun b u _ _ e _ => k b u e, x.2⟩
theorem all_of {α : Type} : ∀ L : List α, (List.range L.length).filterMap (fun i => L[i]?) = L
  | [] => rfl
  | x :: L => by
    have ih := all_of L
    rw [List.length_cons, List.range_succ_eq_map, List.filterMap_cons, List.filterMap_map]
    exact congrArg (x :: ·) ih
theorem pick_rows (L : List (Value × NestedKey)) (es : Array (Int × Value)) (hr : es.toList = rowsK w L) : ∀ l : List Nat, (∀ i ∈ l, i < L.length) →
    (l.filterMap fun i => es[i]?) = rowsK w (l.filterMap fun i => L[i]?) ∧ hashesK w (l.filterMap fun i => L[i]?) = l.map fun i => (es.map (·.1)).getD i 0
  | [], _ => ⟨rfl, rfl⟩
  | i :: l, h => by
    obtain ⟨e1, e2⟩ := pick_rows L es hr l fun j hj => h j (List.mem_cons_of_mem _ hj)
    have il := h i List.mem_cons_self
    have hi := List.getElem?_eq_getElem il
    have q : es[i]? = some (L[i].2.hash w, L[i].1) := by rw [← Array.getElem?_toList, hr, rowsK, List.getElem?_map, hi]; rfl
    refine ⟨?_, ?_⟩
    · rw [List.filterMap_cons_some q, List.filterMap_cons_some hi, e1]; rfl
    · rw [List.filterMap_cons_some hi, List.map_cons]
      show L[i].2.hash w :: hashesK w _ = _
      rw [e2, Array.getD_eq_getD_getElem?, Array.getElem?_map, q]
      rfl
theorem fits_of {n : Nat} (hn : t.place.size = n) (hd : t.dummies = #[]) (hl : n ≤ t.mask) : t.fits n = true := by
  unfold SetTable.fits SetTable.fill
  rw [hd, hn]
  simp only [beq_self_eq_true, Bool.true_and, decide_eq_true_eq]
  show n + 0 ≤ _
  omega
theorem relay_to {o : Obj} (ho : s.heap.get? a = some o) (hex : o.ExactSet) (hd : o.data = .set es ep t) (rows : es.toList = rowsK w L) (hn : t.place.size = es.size) (hdm : t.dummies = #[]) (hl : es.size ≤ t.mask)
    (nd : (L.map (·.2)).Nodup) (key : ∀ p ∈ L, Kv s.heap p) (ld : w.params.followText "set-order" = true ∨ t.led = true) {wanted M : Nat} (hw : SetTable.sizeAbove wanted = M + 1) (F : Full M) (mk : M = 7 ∨ M = 31 ∨ M = 127 ∨ M = 511) (room : L.length * 5 < M * 3)
    {Q : Unit → Shared → Prop} (h : ∀ h' L' es' ep' t', Heap.SameBut a s.heap h' → TS w h' a L' es' ep' t' → L'.Perm L → Q () { s with heap := h' }) : wpAny (model P w) A (setRelay a wanted) Q E s := by
  have sz : es.size = L.length := by rw [← Array.length_toList, rows]; exact List.length_map _
  obtain ⟨t', order, e, pm, T, em, el, _, ed⟩ := relay_ok t (hs := es.map (·.1)) (wanted := wanted) (M := M) (by rw [hw]; rfl) F (by rw [Array.size_map, sz]; omega)
  rw [Array.size_map, sz] at pm
  obtain ⟨r1, r2⟩ := pick_rows (w := w) L es rows order.toList fun i hi => List.mem_range.mp (pm.mem_iff.mp hi)
  rw [← r2] at T
  have pL : (order.toList.filterMap fun i => L[i]?).Perm L := by
    have z := pm.filterMap fun i => L[i]?
    rw [all_of] at z
    exact z
  generalize hL2 : (order.toList.filterMap fun i => L[i]?) = L2 at *
  have r1 : (order.filterMap (es[·]?)).toList = rowsK w L2 := by rw [Array.toList_filterMap]; exact r1
  have s2 : (order.filterMap (es[·]?)).size = es.size := by rw [← Array.length_toList, r1, sz, ← pL.length_eq]; exact List.length_map _
  rw [setRelay_eq]
  refine wpAny_bind (wpAny_setState_of ho hd (fits_of hn hdm hl) ?_)
  dsimp only
  refine wp_if_neg (by rw [sizeLine_eq, hw]; omega) ?_
  try refine wpAny_bind (wpAny_pure ?_)
  rw [e]
  dsimp only
  refine wpAny_bind ?_
  refine wp_if_neg (by rw [s2]; simp) ?_
  try refine wpAny_bind (wpAny_pure ?_)
  refine wpAny_pure ?_
  dsimp only
  have sb : Heap.SameBut a s.heap (s.heap.update a (Obj.putSet (order.filterMap (es[·]?)) t')) := Heap.SameBut.update ..
  refine wpAny_storeSet_of ho hd ?_ (by rw [s2, sz, sizeLine_eq]; omega)
  refine h _ L2 _ (ep + 1) t' sb ⟨⟨_, store_at ho hd, ⟨hex.1, hex.2.1, hex.2.2⟩, rfl⟩, r1, T, (pL.map (·.2)).nodup_iff.mpr nd, fun p hp => (key p (pL.mem_iff.mp hp)).same ho hd sb, by rw [el]; exact ld, by rw [pL.length_eq, em]; exact room, by rw [em]; exact mk⟩ pL
theorem rows_in (L : List (Value × NestedKey)) (p : Nat) (x : Value × NestedKey) : rowsK w (L.take p ++ x :: L.drop p) = (rowsK w L).take p ++ (x.2.hash w, x.1) :: (rowsK w L).drop p := by
  unfold rowsK
  rw [List.map_append, List.map_cons, List.map_take, List.map_drop]
theorem in_perm {α : Type} (L : List α) (p : Nat) (x : α) : (L.take p ++ x :: L.drop p).Perm (x :: L) := by
  have z : (L.take p ++ x :: L.drop p).Perm (x :: (L.take p ++ L.drop p)) := List.perm_middle
  rwa [List.take_append_drop] at z
/-- behind the search: stored, and laid anew if too full -/
theorem add_tail {o : Obj} (ho : s.heap.get? a = some o) (hex : o.ExactSet) (hd : o.data = .set es ep t) {es1 : Array (Int × Value)} {t1 : SetTable} {L1 : List (Value × NestedKey)} (rows : es1.toList = rowsK w L1) (T : Tb t1 (hashesK w L1))
    (nd : (L1.map (·.2)).Nodup) (key : ∀ p ∈ L1, Kv s.heap p) (ld : w.params.followText "set-order" = true ∨ t1.led = true) (mk : t1.mask = 7 ∨ t1.mask = 31 ∨ t1.mask = 127 ∨ t1.mask = 511) {n : Nat} (hn : L1.length = n + 1) (few : n < 300) (room : n * 5 < t1.mask * 3) (fl : t1.fill = n + 1)
    {Q : Bool → Shared → Prop} (h : ∀ h' L' es' ep' t', Heap.SameBut a s.heap h' → TS w h' a L' es' ep' t' → L'.Perm L1 → Q true { s with heap := h' }) :
    wpAny (model P w) A (do
      storeSet a es1 t1
      if (!false && t1.tooFull) = true then do
        setRelay a (SetTable.grown (n + 1))
        pure true
      else pure true) Q E s := by
  have sz : es1.size = n + 1 := by rw [← Array.length_toList, rows, ← hn]; exact List.length_map _
  refine wpAny_bind (wpAny_storeSet_of ho hd ?_ (by rw [sz, sizeLine_eq]; omega))
  have sb : Heap.SameBut a s.heap (s.heap.update a (Obj.putSet es1 t1)) := Heap.SameBut.update ..
  have ho1 := store_at (es' := es1) (t' := t1) ho hd
  generalize s.heap.update a (Obj.putSet es1 t1) = h1 at sb ho1 ⊢
  have key1 : ∀ p ∈ L1, Kv h1 p := fun p hp => (key p hp).same ho hd sb
  by_cases hf : t1.tooFull = true
  · refine wp_if_pos (by simp [hf]) ?_
    have full : (n + 1) * 5 ≥ t1.mask * 3 := by
      unfold SetTable.tooFull at hf
      rw [decide_eq_true_eq, fl] at hf
      exact hf
    have go : ∀ M, SetTable.sizeAbove (SetTable.grown (n + 1)) = M + 1 → Full M → (M = 7 ∨ M = 31 ∨ M = 127 ∨ M = 511) → (n + 1) * 5 < M * 3 →
        wpAny (model P w) A (setRelay a (SetTable.grown (n + 1)) >>= fun _ => pure true) Q E { s with heap := h1 } := fun M h1' h2 h3 h4 => by
      refine wpAny_bind (relay_to (s := { s with heap := h1 }) ho1 ⟨hex.1, hex.2.1, hex.2.2⟩ rfl rows (by rw [T.n, List.length_map, hn, sz]) T.no (by rw [sz]; omega) nd key1 ld h1' h2 h3 (by rw [hn]; exact h4) fun h' L' es' ep' t' sb' R pm => ?_)
      exact wpAny_pure (h h' L' es' ep' t' (sb.trans sb') R pm)
    rcases mk with e | e | e | e <;> rw [e] at full room
    · have : n = 4 := by omega
      subst this
      exact go 31 size_20 full31 (by simp) (by omega)
    · have : n = 18 := by omega
      subst this
      exact go 127 size_76 full127 (by simp) (by omega)
    · have : n = 76 := by omega
      subst this
      exact go 511 size_308 full511 (by simp) (by omega)
    · omega
  · refine wp_if_neg (by simp [hf]) (wpAny_pure (h h1 L1 es1 (ep + 1) t1 sb ⟨⟨_, ho1, ⟨hex.1, hex.2.1, hex.2.2⟩, rfl⟩, rows, T, nd, key1, ld, ?_, mk⟩ (List.Perm.refl _)))
    unfold SetTable.tooFull at hf
    rw [decide_eq_true_eq, fl] at hf
    rw [hn]
    omega
/-- ADDING -/
theorem add_to (R : TS w s.heap a L es ep t) {x : Value} {k : NestedKey} (hx : Kv s.heap (x, k)) (hu : A.units + 8 < cLine) (few : L.length < 300) {Q : Bool → Shared → Prop}
    (h : ∀ b h' L' es' ep' t', Heap.SameBut a s.heap h' → TS w h' a L' es' ep' t' → (k ∈ L.map (·.2) → L' = L) → (k ∉ L.map (·.2) → L'.Perm ((x, k) :: L)) → Q b { s with heap := h' }) :
    wpAny (model P w) A (setAddHashed a x (k.hash w)) Q E s := by
  obtain ⟨o, ho, hex, hd⟩ := R.ob
  obtain ⟨b, hb⟩ := hx.2.2
  have hb : x = .ref b := hb
  subst hb
  unfold setAddHashed
  refine wpAny_holding ?_
  rw [show (100000 : Nat) = 99999 + 1 from rfl, setAddHashedIn_succ]
  refine wpAny_bind (wpAny_setState_of ho hd R.fits ?_)
  dsimp only
  refine wp_if_neg (by simp [byScan, Value.scannable]) ?_
  try refine wpAny_bind (wpAny_pure ?_)
  refine wpAny_bind (look R hx hu (fun hm => ?_) fun K hm hK hb => ?_)
  · dsimp only
    exact wpAny_pure (h false s.heap L es ep t (Heap.SameBut.refl a s.heap) R (fun _ => rfl) fun z => absurd hm z)
  · dsimp only
    refine wpAny_bind (wpAny_setState_of ho hd R.fits ?_)
    dsimp only
    obtain ⟨p, hp⟩ : ∃ p, SetTable.below t.place (way t.mask (k.hash w) K) = p := ⟨_, rfl⟩
    obtain ⟨q1, q2, q3⟩ := R.tab.put hp hK hb
    have e2 : (t.put (way t.mask (k.hash w) K)).2 = p := hp
    have em : (t.put (way t.mask (k.hash w) K)).1.mask = t.mask := rfl
    have el : (t.put (way t.mask (k.hash w) K)).1.led = t.led := rfl
    generalize t.put (way t.mask (k.hash w) K) = pt at q2 q3 e2 em el ⊢
    obtain ⟨t1, p'⟩ := pt
    dsimp only at q2 q3 e2 em el ⊢
    subst e2
    have pm := in_perm L p' (Value.ref b, k)
    have hin : (SetTable.insertAt es p' (k.hash w, Value.ref b)).toList = rowsK w (L.take p' ++ (Value.ref b, k) :: L.drop p') := by rw [SetTable.toList_insertAt, rows_in, R.rows]
    have hhs : hashesK w (L.take p' ++ (Value.ref b, k) :: L.drop p') = (hashesK w L).take p' ++ k.hash w :: (hashesK w L).drop p' := by
      unfold hashesK
      rw [List.map_append, List.map_cons, List.map_take, List.map_drop]
    rw [← hhs] at q2
    rw [List.length_map] at q3
    generalize L.take p' ++ (Value.ref b, k) :: L.drop p' = L1 at pm q2 hin
    have nd1 : (L1.map (·.2)).Nodup := by
      refine (pm.map (·.2)).nodup_iff.mpr ?_
      rw [List.map_cons]
      exact List.nodup_cons.mpr ⟨hm, R.nd⟩
    have key1 : ∀ p ∈ L1, Kv s.heap p := fun p hp => by
      rcases List.mem_cons.mp (pm.mem_iff.mp hp) with e | hp
      · rw [e]; exact hx
      · exact R.key p hp
    have tail : ∀ t2 : SetTable, Tb t2 (hashesK w L1) → t2.mask = t.mask → t2.led = t.led → t2.fill = L.length + 1 → wpAny (model P w) A (do
        storeSet a (SetTable.insertAt es p' (k.hash w, Value.ref b)) t2
        if (!false && t2.tooFull) = true then do
          setRelay a (SetTable.grown (es.size + 1))
          pure true
        else pure true) Q E s := fun t2 T2 m2 l2 f2 => by
      rw [R.size]
      refine add_tail ho hex hd hin T2 nd1 key1 (by rw [l2]; exact R.led) (by rw [m2]; exact R.msk) pm.length_eq few (by rw [m2]; exact R.room) f2 fun h' L' es' ep' t' sb R' pm' => ?_
      exact h true h' L' es' ep' t' sb R' (fun z => absurd z hm) fun _ => pm'.trans pm
    have off : Tb { t1 with plain := false } (hashesK w L1) := ⟨q2.up, q2.no, q2.n, q2.full, q2.le, q2.met⟩
    by_cases hpl : t1.plain = true
    · refine wp_if_pos hpl (wpAny_bind (hbAny_key k (.ref b) 8 s hx.1 hx.2.1 _ _ _ fun bb => ?_))
      cases bb with
      | true => exact tail t1 q2 em el q3
      | false => exact tail _ off em el q3
    · refine wp_if_neg hpl (wpAny_bind (wpAny_pure ?_))
      exact tail t1 q2 em el q3
end
end Mi
end
section
set_option maxRecDepth 100000
/-! Mi: set(xs). -/
namespace Mi
open PySem PySem.Spec PyProof.Rows L2
/-- how a set at S is known: what it has (values with their keys), what its items are -/
structure Holds (P : Program) (w : World) (S : Addr) where
  Z : Heap → List (Value × NestedKey) → Prop
  It : Heap → Value × NestedKey → Prop
  nd : ∀ {h L}, Z h L → (L.map (·.2)).Nodup
  ob : ∀ {h L}, Z h L → ∃ o es ep t, h.get? S = some o ∧ o.ExactSet ∧ o.data = .set es ep t ∧ t.fits es.size = true ∧ es.size = L.length
  zk : ∀ {h h' L}, Z h L → (∀ o, h.get? S = some o → h'.get? S = some o) → (∀ p ∈ L, It h' p) → Z h' L
  ik : ∀ {h h' p}, It h p → (∀ b o, h.get? b = some o → h'.get? b = some o) → It h' p
  add : ∀ {A : Around} {E : Value → Shared → Prop} {s : Shared} {L : List (Value × NestedKey)} {p : Value × NestedKey} {Q : Bool → Shared → Prop}, Z s.heap L → It s.heap p → A.units + 20 < cLine → L.length < 300 →
    (∀ b h' L' tk, s.toks ≤ tk → Heap.SameBut S s.heap h' → Z h' L' → (p.2 ∈ L.map (·.2) → L' = L) → (p.2 ∉ L.map (·.2) → L'.Perm (p :: L)) → Q b { s with heap := h', toks := tk }) → wpAny (model P w) A (setAdd S p.1) Q E s
/-- what has come of the first i items -/
structure Met (ks : List (Value × NestedKey)) (i : Nat) (L : List (Value × NestedKey)) : Prop where
  sub : ∀ p ∈ L, p ∈ ks.take i
  all : ∀ p ∈ ks.take i, p.2 ∈ L.map (·.2)
  len : L.length ≤ i
theorem take_one {α : Type} {l : List α} {i : Nat} {x : α} (h : l[i]? = some x) {y : α} : y ∈ l.take (i + 1) ↔ y ∈ l.take i ∨ y = x := by
  rw [List.take_succ, h, List.mem_append]
  simp
theorem Met.next {ks L L' : List (Value × NestedKey)} {i : Nat} {x : Value × NestedKey} (g : Met ks i L) (h : ks[i]? = some x) (h1 : x.2 ∈ L.map (·.2) → L' = L) (h2 : x.2 ∉ L.map (·.2) → L'.Perm (x :: L)) : Met ks (i + 1) L' := by
  by_cases c : x.2 ∈ L.map (·.2)
  · have e := h1 c
    subst e
    refine ⟨fun p hp => (take_one h).mpr (.inl (g.sub p hp)), fun p hp => ?_, Nat.le_succ_of_le g.len⟩
    rcases (take_one h).mp hp with z | z
    · exact g.all p z
    · rw [z]; exact c
  · have pm := h2 c
    refine ⟨fun p hp => ?_, fun p hp => (pm.map (·.2)).mem_iff.mpr ?_, by rw [pm.length_eq]; exact Nat.succ_le_succ g.len⟩
    · rcases List.mem_cons.mp (pm.mem_iff.mp hp) with z | z
      · exact (take_one h).mpr (.inr z)
      · exact (take_one h).mpr (.inl (g.sub p z))
    · rcases (take_one h).mp hp with z | z
      · exact List.mem_cons_of_mem _ (g.all p z)
      · rw [z]; exact List.mem_cons_self
abbrev newSetO (w : World) : Obj := { cls := .type "set", dict := none, data := .set #[] 0 (.fresh 0 0 (!w.params.followText "set-order")) }
section
variable {P : Program} {w : World} {A : Around} {E : Value → Shared → Prop} {s : Shared}
theorem upd_loop {I S : Addr} {fp wr : List Addr} {G : Array GenState → Array GenState → Prop} {n : Nat} {Pv : Nat → Value → Prop} {St : Nat → Shared → Prop} {R : Result → Shared → Prop} (W : WalksS P w A.in1 I fp wr G n Pv St)
    (HS : Holds P w S) (hf : S ∉ fp) (ks : List (Value × NestedKey)) (hn : n = ks.length) (few : n ≤ 300) (hv : ∀ i v, Pv i v → ∃ p, ks[i]? = some p ∧ v = p.1) (h0 : Heap) (hk : ∀ p ∈ ks, HS.It h0 p) (z0 : h0.get? S = none) (zw : ∀ b ∈ wr, h0.get? b = none)
    (hu : A.in1.units + 20 < cLine) : ∀ (k i : Nat) (s : Shared) (L : List (Value × NestedKey)), n = i + k → St i s → (∀ b o, h0.get? b = some o → s.heap.get? b = some o) → HS.Z s.heap L → Met ks i L →
      (∀ s' L', Moved (S :: wr) G s s' → HS.Z s'.heap L' → Met ks n L' → (∀ b o, h0.get? b = some o → s'.heap.get? b = some o) → R (.ok (.ret .none)) s') →
      codeAny (model P w) A (.builtin "set.update.loop" ⟨[.ref S, .ref I], []⟩) R s := by
  have hw : S ∉ wr := fun h => hf (W.sub _ h)
  have wider : ∀ b ∈ wr, b ∈ S :: wr := fun b hb => .tail _ hb
  have still : ∀ {s s' : Shared}, Moved wr G s s' → (∀ b o, h0.get? b = some o → s.heap.get? b = some o) → ∀ b o, h0.get? b = some o → s'.heap.get? b = some o := fun m q b o e =>
    m.heap b o (fun hb => by rw [zw b hb] at e; cases e) (q b o e)
  have inks : ∀ {i L}, Met ks i L → ∀ p ∈ L, p ∈ ks := fun g p hp => List.mem_of_mem_take (g.sub p hp)
  intro k
  induction k with
  | zero =>
    intro i s L hi st q z g hR
    obtain rfl : n = i := hi
    refine codeAny_builtin PyProof.Rows.F.entry_set_update_loop ?_
    rw [Around.under_plainId PyProof.Rows.F.plain_set_update_loop _]
    show wpAny _ A.in1 (pyNext (.ref I) >>= _) _ _ s
    refine wpAny_bind (W.done s _ _ st fun s' m => ?_)
    have q' := still m q
    exact wpAny_pure (hR s' L (m.mono wider) (HS.zk z (fun o e => m.heap S o hw e) fun p hp => HS.ik (hk p (inks g p hp)) q') g q')
  | succ k ih =>
    intro i s L hi st q z g hR
    refine codeAny_builtin PyProof.Rows.F.entry_set_update_loop ?_
    rw [Around.under_plainId PyProof.Rows.F.plain_set_update_loop _]
    show wpAny _ A.in1 (pyNext (.ref I) >>= _) _ _ s
    refine wpAny_bind (W.item i s _ _ (by omega) st fun v s' pv st' m => ?_)
    obtain ⟨p, hp, rfl⟩ := hv i v pv
    have q' := still m q
    have z' : HS.Z s'.heap L := HS.zk z (fun o e => m.heap S o hw e) fun p hp => HS.ik (hk p (inks g p hp)) q'
    show wpAny _ A.in1 (holding [p.1] (setAdd S p.1) >>= _) _ _ s'
    refine wpAny_bind (wpAny_holding (HS.add z' (HS.ik (hk p (List.mem_of_getElem? hp)) q') hu (by have := g.len; omega) fun b h' L' tk ht sb z2 c1 c2 => ?_))
    have g2 := g.next hp c1 c2
    have q2 : ∀ b o, h0.get? b = some o → h'.get? b = some o := fun b o e => (sb.2 b fun c => by rw [c, z0] at e; cases e).trans (q' b o e)
    have st2 := W.frame (i + 1) s' h' tk st' ht fun b hb o e => (sb.2 b fun c => hf (c ▸ hb)).trans e
    refine wpAny_pure ⟨plainId_quiet PyProof.Rows.F.plain_set_update_loop _, ih (i + 1) _ L' (by omega) st2 q2 z2 g2 fun s2 L2 m2 z3 g3 q3 => ?_⟩
    exact hR s2 L2 (Moved.trans W.gtrans ((m.mono wider).then_heap ht fun b o hb e => (sb.2 b fun c => hb (c ▸ List.mem_cons_self)).trans e) m2) z3 g3 q3

set_option maxRecDepth 100000 in
set_option maxHeartbeats 3200000 in
/-- set(x): x of the type T, that is walked -/
theorem call_set_of {l : Addr} {T : String} {items : Array Value} (ks : List (Value × NestedKey)) (HS : Holds P w s.heap.objs.size) {Q : Value → Shared → Prop} (hh : A.handled = none) {ol : Obj} (hol : s.heap.get? l = some ol) (hcl : ol.cls = .type T)
    (hs1 : isSubtype (.type T) (.type "set") = pure false) (hs2 : isSubtype (.type T) (.type "frozenset") = pure false) (hs3 : (Value.type T == Value.type "dict") = false)
    (hz : items.toList = ks.map (·.1)) (hk : ∀ p ∈ ks, HS.It s.heap p) (few : ks.length ≤ 300) (hu : A.units + 30 < cLine)
    (hw : ∀ (A : Around) (s1 : Shared) (E : Value → Shared → Prop) (Q : Value → Shared → Prop), A.handled = none → (∀ o, s.heap.get? l = some o → s1.heap.get? l = some o) →
      (∀ St io, io.isFreed = false → (∀ A' : Around, A'.handled = none → Walks P w A' s1.heap.objs.size [s1.heap.objs.size, l] [s1.heap.objs.size] items.size (fun i v => items[i]? = some v) St) → St 0 (s1.heap.push io) → Q (.ref s1.heap.objs.size) { s1 with heap := s1.heap.push io }) → wpAny (model P w) A (pyIter (.ref l)) Q E s1)
    (h0 : HS.Z (s.heap.push (newSetO w)) [])
    (h : ∀ (h' : Heap) (tk : Nat) L, HS.Z h' L → Met ks ks.length L → (∀ b o, s.heap.get? b = some o → h'.get? b = some o) → Q (.ref s.heap.objs.size) { s with heap := h', toks := tk }) :
    wpAny (model P w) A (PySem.call (.type "set") [.ref l]) Q E s := by
  have sz : items.size = ks.length := by rw [← Array.length_toList, hz, List.length_map]
  have ls : l < s.heap.objs.size := Heap.lt_size hol
  obtain ⟨mc, mt, mm⟩ := PySem.F.called_set.mro
  have c1 := PySem.F.called_set.made
  have c2 := PySem.F.called_set.sub
  refine wpAny_call (codeAny_of_tree ?_)
  show wpAny _ _ (callAny (.type "set") _) _ _ _
  refine wpAny_pure ⟨Code.quiet_builtin _ (by decide +kernel), codeAny_builtin PySem.F.entry_type_call ?_⟩
  rw [Around.under_plain (weight_type_call_type "set" [.ref l] []) rfl]
  have c3 := PySem.F.called_set.notType
  have c4 := PySem.F.called_set.canCreate
  have c5 := PySem.F.typeCall_set_1 (.ref l)
  repeat (any_goals (first | assumption | wp_step))
  refine codeAny_mono (code_set_led1 (.ref l) (E := E) (Q₁ := fun v s1 => v = .ref s.heap.objs.size ∧ s1 = { s with heap := s.heap.push (newSetO w) }) ⟨rfl, rfl⟩) fun r s1 hr => ?_
  cases r with
  | error e => exact hr
  | ok fl =>
    cases fl with
    | ret v =>
      obtain ⟨rfl, rfl⟩ := hr
      have there : (s.heap.push (newSetO w)).get? s.heap.objs.size = some (newSetO w) := Heap.get?_push_size _ rfl
      have ty : Shared.TypeIs { s with heap := s.heap.push (newSetO w) } (.ref s.heap.objs.size) "set" := ⟨_, there, rfl⟩
      have i1 := PySem.F.called_set.init.lookup
      have i2 := PySem.F.called_set.init.bind (.ref s.heap.objs.size)
      repeat (any_goals (first | assumption | wp_step))
      refine codeAny_mono (codeAny_call_builtin (R := wants (fun v s2 => v = .none ∧ ∃ h' tk L, s2 = { s with heap := h', toks := tk } ∧ HS.Z h' L ∧ Met ks ks.length L ∧ ∀ b o, s.heap.get? b = some o → h'.get? b = some o) E)
        PySem.F.called_set.init.plain PySem.F.entry_set_init (check_set_init_1 ty ?_)) fun r2 s2 hr2 => ?_
      · have hol' : (s.heap.push (newSetO w)).get? l = some ol := Heap.get?_push_of_some _ hol
        obtain ⟨cls, dc, data, sl⟩ := ol
        simp only at hcl
        subst hcl
        unfold Builtin.«set.__init__» noKeywords Builtin.Frozenset.updateFrom
        generalize hit : pyIter = it
        wp_walk
        subst hit
        refine hw _ _ _ _ (by simp [hh]) (fun o e => Heap.get?_push_of_some _ e) fun St io fr W st => ?_
        refine wpAny_bind (wpAny_runValue ?_)
        have s1z : (s.heap.push (newSetO w)).objs.size = s.heap.objs.size + 1 := Heap.size_push ..
        have gone : ∀ b, s.heap.objs.size ≤ b → s.heap.get? b = none := fun b hb => by
          cases q : s.heap.get? b with
          | none => rfl
          | some o => exact absurd (Heap.lt_size q) (Nat.not_lt.mpr hb)
        have hv : ∀ (i : Nat) (v : Value), items[i]? = some v → ∃ p, ks[i]? = some p ∧ v = p.1 := fun i v e => by
          rw [← Array.getElem?_toList, hz, List.getElem?_map] at e
          obtain ⟨p, a, b⟩ := Option.map_eq_some_iff.mp e
          exact ⟨p, a, b.symm⟩
        have grow : ∀ b o, s.heap.get? b = some o → ((s.heap.push (newSetO w)).push io).get? b = some o := fun b o e => Heap.get?_push_of_some _ (Heap.get?_push_of_some _ e)
        have near : ∀ b, b ∈ [(s.heap.push (newSetO w)).objs.size, l] → b ≠ s.heap.objs.size := fun b hb => by
          rcases List.mem_cons.mp hb with e | e
          · rw [e, s1z]; exact Nat.succ_ne_self _
          · rw [List.mem_singleton.mp e]; exact Nat.ne_of_lt ls
        refine upd_loop (W _ (by simp [hh])).toS HS (fun hb => near _ hb rfl) ks sz (by rw [sz]; exact few) hv s.heap hk (gone _ (Nat.le_refl _)) (fun b hb => gone b (by rw [List.mem_singleton.mp hb, s1z]; exact Nat.le_succ _))
          (by simp only [Around.in1_units]; omega) items.size 0 { s with heap := (s.heap.push (newSetO w)).push io } [] (by omega) st grow (HS.zk h0 (fun o e => Heap.get?_push_of_some _ e) (fun p hp => nomatch hp)) ⟨(fun p hp => nomatch hp), (fun p hp => nomatch hp), Nat.le_refl _⟩ fun s' L' m z g q => ?_
        obtain ⟨h', g', d', tk', os'⟩ := s'
        obtain rfl : g' = s.gens := m.gens
        obtain rfl : d' = s.drawn := m.drawn
        obtain rfl : os' = s.os := m.os
        rw [sz] at g
        exact wpAny_pure (wpAny_pure ⟨rfl, h', tk', L', rfl, z, g, q⟩)
      · cases r2 with
        | error e => exact hr2
        | ok fl2 =>
          cases fl2 with
          | ret v =>
            obtain ⟨rfl, h', tk, L, rfl, z, g, q⟩ := hr2
            repeat (any_goals (first | assumption | wp_step))
            exact h h' tk L z g q
          | _ => exact hr2.elim
    | _ => exact hr.elim
end
end Mi
end
section
set_option maxRecDepth 100000
/-! Mi: the two kinds of sets: of tuples, of texts. -/
namespace Mi
open PySem PySem.Spec PyProof.Rows L2
theorem tb_fresh (w : World) : Tb (SetTable.fresh 0 0 (!w.params.followText "set-order")) [] := ⟨List.Pairwise.nil, rfl, rfl, full7, (fun x hx => nomatch hx), fun i h j hi => nomatch hi⟩
def tupSets (P : Program) (w : World) (S : Addr) : Holds P w S where
  Z := fun h L => ∃ es ep t, TS w h S L es ep t
  It := Kv
  nd := fun ⟨_, _, _, R⟩ => R.nd
  ob := fun {h L} ⟨es, ep, t, R⟩ => by
    obtain ⟨o, a, b, c⟩ := R.ob
    exact ⟨o, es, ep, t, a, b, c, R.fits, R.size⟩
  zk := fun ⟨es, ep, t, R⟩ k key => by
    obtain ⟨o, a, b, c⟩ := R.ob
    exact ⟨es, ep, t, ⟨o, k o a, b, c⟩, R.rows, R.tab, R.nd, key, R.led, R.room, R.msk⟩
  ik := fun x k => x.keep k
  add := fun {A E s L p Q} ⟨es, ep, t, R⟩ x hu few h => by
    unfold setAdd
    refine wpAny_holding (wpAny_bind (pyHash_key p.2 p.1 A s _ x.1 (by have := x.2.1; omega) ?_))
    refine add_to (s := { s with toks := s.toks + p.2.draws }) (x := p.1) (k := p.2) R x (by omega) few fun b h' L' es' ep' t' sb R' c1 c2 => ?_
    exact h b h' L' _ (Nat.le_add_right _ _) sb ⟨es', ep', t', R'⟩ c1 c2
theorem tup_fresh {P : Program} {w : World} {h : Heap} {S : Addr} (ho : h.get? S = some (newSetO w)) : (tupSets P w S).Z h [] := by
  refine ⟨#[], 0, _, ⟨_, ho, ⟨rfl, rfl, rfl⟩, rfl⟩, rfl, tb_fresh w, List.nodup_nil, (fun p hp => nomatch hp), ?_, by show 0 * 5 < 7 * 3; decide, .inl rfl⟩
  show _ ∨ (!w.params.followText "set-order") = true
  cases w.params.followText "set-order" <;> simp
/-- a text and its key -/
def Kt (p : Value × NestedKey) : Prop := ∃ x t, p = (.str x t, .text x)
structure ZT (P : Program) (w : World) (S : Addr) (h : Heap) (L : List (Value × NestedKey)) : Prop where
  ex : ∃ F : Str → Bool, h.SetOf (strKind P w) S F L.length ∧ ∀ x, F x = true ↔ NestedKey.text x ∈ L.map (·.2)
  key : ∀ p ∈ L, Kt p
  nd : (L.map (·.2)).Nodup
def txtSets (P : Program) (w : World) (S : Addr) : Holds P w S where
  Z := ZT P w S
  It := fun _ => Kt
  nd := fun z => z.nd
  ob := fun z => by
    obtain ⟨F, ⟨o, es, ep, t, a, b, c, _, _, _, d, e⟩, _⟩ := z.ex
    exact ⟨o, es, ep, t, a, b, c, d, e⟩
  zk := fun z k _ => by
    obtain ⟨F, ⟨o, es, ep, t, a, r⟩, e⟩ := z.ex
    exact ⟨⟨F, ⟨o, es, ep, t, k o a, r⟩, e⟩, z.key, z.nd⟩
  ik := fun x _ => x
  add := fun {A E s L p Q} z x hu few h => by
    obtain ⟨F, hS, hF⟩ := z.ex
    obtain ⟨x, t, rfl⟩ := x
    unfold setAdd
    refine wpAny_holding (wpAny_bind ((strKind P w).pyHash (k := x) (strKind_is _ _ _ _) ?_))
    refine wpAny_setAddHashed_of (knd := strKind P w) (s := { s with toks := s.toks + 1 }) (strKind_is _ _ _ _) rfl hS (by unfold scanBound; omega) fun h' sb hS2 => ?_
    by_cases c : F x = true
    · refine h _ h' L _ (Nat.le_succ _) sb ⟨⟨fun k' => F k' || decide (k' = x), ?_, fun y => ?_⟩, z.key, z.nd⟩ (fun _ => rfl) fun q => absurd ((hF x).mp c) q
      · rw [if_pos c] at hS2; exact hS2
      · rw [Bool.or_eq_true, decide_eq_true_eq, hF y]
        exact ⟨fun q => q.elim id fun e => e ▸ (hF x).mp c, .inl⟩
    · have no : NestedKey.text x ∉ L.map (·.2) := fun q => c ((hF x).mpr q)
      refine h _ h' ((.str x t, .text x) :: L) _ (Nat.le_succ _) sb ⟨⟨fun k' => F k' || decide (k' = x), ?_, fun y => ?_⟩, fun p hp => ?_, List.nodup_cons.mpr ⟨no, z.nd⟩⟩ (fun q => absurd q no) fun _ => List.Perm.refl _
      · rw [if_neg c] at hS2; exact hS2
      · rw [Bool.or_eq_true, decide_eq_true_eq, hF y, List.map_cons, List.mem_cons, NestedKey.text.injEq]
        exact ⟨fun q => q.symm, fun q => q.symm⟩
      · rcases List.mem_cons.mp hp with e | hp
        · exact ⟨x, t, e⟩
        · exact z.key p hp
theorem txt_fresh {P : Program} {w : World} {h : Heap} {S : Addr} (ho : h.get? S = some (newSetO w)) : (txtSets P w S).Z h [] :=
  ⟨⟨fun _ => false, (setObjOf_fresh (knd := strKind P w) _).setOf ho (by unfold scanBound; decide), fun x => by simp⟩, (fun p hp => nomatch hp), List.nodup_nil⟩
section
variable {P : Program} {w : World} {A : Around} {E : Value → Shared → Prop} {s : Shared}
theorem set_list {l : Addr} {items : Array Value} (ks : List (Value × NestedKey)) (HS : Holds P w s.heap.objs.size) {Q : Value → Shared → Prop} (hh : A.handled = none) (hl : s.heap.IsList l items)
    (hz : items.toList = ks.map (·.1)) (hk : ∀ p ∈ ks, HS.It s.heap p) (few : ks.length ≤ 300) (hu : A.units + 30 < cLine) (h0 : HS.Z (s.heap.push (newSetO w)) [])
    (h : ∀ (h' : Heap) (tk : Nat) L, HS.Z h' L → Met ks ks.length L → (∀ b o, s.heap.get? b = some o → h'.get? b = some o) → Q (.ref s.heap.objs.size) { s with heap := h', toks := tk }) : wpAny (model P w) A (PySem.call (.type "set") [.ref l]) Q E s := by
  obtain ⟨ol, a1, a2, a3⟩ := hl
  refine call_set_of ks HS hh a1 a2 PySem.F.sub_list_set PySem.F.sub_list_frozenset (by decide) hz hk few hu (fun A s1 E Q hA k hQ => ?_) h0 h
  have x : s1.heap.IsList l items := ⟨ol, k ol a1, a2, a3⟩
  have ne : l ≠ s1.heap.objs.size := Nat.ne_of_lt (Heap.lt_size (k ol a1))
  exact wpAny_pyIter_list x (hQ _ _ rfl (fun A' h' => Walks.list h' _ l ne items) ⟨⟨_, Heap.get?_push_size _ rfl, rfl, rfl⟩, x.push _⟩)
theorem set_tuple {l : Addr} {items : Array Value} (ks : List (Value × NestedKey)) (HS : Holds P w s.heap.objs.size) {Q : Value → Shared → Prop} (hh : A.handled = none) (hl : s.heap.IsTuple l items)
    (hz : items.toList = ks.map (·.1)) (hk : ∀ p ∈ ks, HS.It s.heap p) (few : ks.length ≤ 300) (hu : A.units + 30 < cLine) (h0 : HS.Z (s.heap.push (newSetO w)) [])
    (h : ∀ (h' : Heap) (tk : Nat) L, HS.Z h' L → Met ks ks.length L → (∀ b o, s.heap.get? b = some o → h'.get? b = some o) → Q (.ref s.heap.objs.size) { s with heap := h', toks := tk }) : wpAny (model P w) A (PySem.call (.type "set") [.ref l]) Q E s := by
  obtain ⟨ol, a1, a2, a3⟩ := hl
  refine call_set_of ks HS hh a1 a2 PySem.F.sub_tuple_set PySem.F.sub_tuple_frozenset (by decide) hz hk few hu (fun A s1 E Q hA k hQ => ?_) h0 h
  have x : s1.heap.IsTuple l items := ⟨ol, k ol a1, a2, a3⟩
  have ne : l ≠ s1.heap.objs.size := Nat.ne_of_lt (Heap.lt_size (k ol a1))
  exact wpAny_pyIter_tuple x (hQ _ _ rfl (fun A' h' => Walks.tuple h' _ l ne items) ⟨⟨_, Heap.get?_push_size _ rfl, rfl, rfl⟩, x.push _⟩)
end
end Mi
end
section
set_option maxRecDepth 100000
/-! Mi: len(set(x)). -/
namespace Mi
open PySem L2
mutual
theorem kdep_nk : ∀ d : D, (nk d).depth = kdep d
  | .non => rfl
  | .bl _ => rfl
  | .int _ => rfl
  | .str _ => rfl
  | .tup xs => by simp only [nk, NestedKey.depth, kdep, kdeps_nk xs]
  | .lst _ => rfl
  | .dct _ _ => rfl
  | .ins _ _ _ => rfl
  | .loc _ => rfl
theorem kdeps_nk : ∀ ds : List D, NestedKey.depthAll (nks ds) = kdeps ds
  | [] => rfl
  | d :: ds => by simp only [nks, NestedKey.depthAll, kdeps, kdep_nk d, kdeps_nk ds]
end
theorem nks_map : ∀ ds : List D, nks ds = ds.map nk
  | [] => rfl
  | d :: ds => by rw [nks, List.map_cons, nks_map ds]
mutual
theorem nk_inj : ∀ a b : D, hashable a = true → hashable b = true → nk a = nk b → a = b
  | .str x, b, _, hb, e => by cases b <;> simp_all [nk, hashable]
  | .int x, b, _, hb, e => by cases b <;> simp_all [nk, hashable]
  | .tup xs, b, ha, hb, e => by
    cases b with
    | tup ys =>
      simp only [nk, NestedKey.tup.injEq] at e
      simp only [hashable] at ha hb
      rw [nks_inj xs ys ha hb e]
    | _ => simp_all [nk, hashable]
  | .non, _, h, _, _ => by simp [hashable] at h
  | .bl _, _, h, _, _ => by simp [hashable] at h
  | .lst _, _, h, _, _ => by simp [hashable] at h
  | .dct _ _, _, h, _, _ => by simp [hashable] at h
  | .ins _ _ _, _, h, _, _ => by simp [hashable] at h
  | .loc _, _, h, _, _ => by simp [hashable] at h
theorem nks_inj : ∀ a b : List D, hashables a = true → hashables b = true → nks a = nks b → a = b
  | [], [], _, _, _ => rfl
  | [], _ :: _, _, _, e => by simp [nks] at e
  | _ :: _, [], _, _, e => by simp [nks] at e
  | x :: xs, y :: ys, ha, hb, e => by
    simp only [nks, List.cons.injEq] at e
    simp only [hashables, Bool.and_eq_true] at ha hb
    rw [nk_inj x y ha.1 hb.1 e.1, nks_inj xs ys ha.2 hb.2 e.2]
end
theorem hashables_mem : ∀ {ds : List D}, hashables ds = true → ∀ d ∈ ds, hashable d = true
  | d :: ds, h, x, hx => by
    simp only [hashables, Bool.and_eq_true] at h
    rcases List.mem_cons.mp hx with e | hx
    · rw [e]; exact h.1
    · exact hashables_mem h.2 x hx
theorem mem_dedup : ∀ {xs : List D} {y : D}, y ∈ dedup xs ↔ y ∈ xs
  | [], y => Iff.rfl
  | x :: xs, y => by
    unfold dedup
    rw [List.mem_cons, List.mem_filter, mem_dedup, List.mem_cons]
    by_cases c : y = x <;> simp [c]
theorem nodup_dedup : ∀ xs : List D, (dedup xs).Nodup
  | [] => List.nodup_nil
  | x :: xs => by
    unfold dedup
    refine List.nodup_cons.mpr ⟨fun h => ?_, (nodup_dedup xs).filter _⟩
    simp at h
theorem nodup_len {α : Type} [DecidableEq α] : ∀ (a b : List α), a.Nodup → (∀ x ∈ a, x ∈ b) → a.length ≤ b.length
  | [], _, _, _ => Nat.zero_le _
  | x :: a, b, h, s => by
    obtain ⟨h1, h2⟩ := List.nodup_cons.mp h
    have hx := s x List.mem_cons_self
    have ih := nodup_len a (b.erase x) h2 fun y hy => (List.mem_erase_of_ne (fun (e : y = x) => h1 (e ▸ hy))).mpr (s y (List.mem_cons_of_mem _ hy))
    rw [List.length_erase_of_mem hx] at ih
    have := List.length_pos_of_mem hx
    simp only [List.length_cons]
    omega
theorem nodup_map {α β : Type} {f : α → β} : ∀ {l : List α}, l.Nodup → (∀ a ∈ l, ∀ b ∈ l, f a = f b → a = b) → (l.map f).Nodup
  | [], _, _ => List.nodup_nil
  | x :: l, h, i => by
    obtain ⟨h1, h2⟩ := List.nodup_cons.mp h
    refine List.nodup_cons.mpr ⟨fun z => ?_, nodup_map h2 fun a ha b hb => i a (List.mem_cons_of_mem _ ha) b (List.mem_cons_of_mem _ hb)⟩
    obtain ⟨y, hy, e⟩ := List.mem_map.mp z
    rw [← i y (List.mem_cons_of_mem _ hy) x List.mem_cons_self e] at h1
    exact h1 hy
/-- the number of different keys -/
theorem met_len {ks L : List (Value × NestedKey)} {ds : List D} (e : ks.map (·.2) = nks ds) (hh : hashables ds = true) (g : Met ks ks.length L) (nd : (L.map (·.2)).Nodup) : L.length = (dedup ds).length := by
  have kk : ks.take ks.length = ks := List.take_length
  have m1 : ∀ x ∈ L.map (·.2), x ∈ (dedup ds).map nk := fun x hx => by
    obtain ⟨p, hp, rfl⟩ := List.mem_map.mp hx
    have z := g.sub p hp
    rw [kk] at z
    have z : p.2 ∈ ks.map (·.2) := List.mem_map.mpr ⟨p, z, rfl⟩
    rw [e, nks_map] at z
    obtain ⟨d, hd, q⟩ := List.mem_map.mp z
    exact List.mem_map.mpr ⟨d, mem_dedup.mpr hd, q⟩
  have m2 : ∀ x ∈ (dedup ds).map nk, x ∈ L.map (·.2) := fun x hx => by
    obtain ⟨d, hd, rfl⟩ := List.mem_map.mp hx
    have z : nk d ∈ ks.map (·.2) := by rw [e, nks_map]; exact List.mem_map.mpr ⟨d, mem_dedup.mp hd, rfl⟩
    obtain ⟨p, hp, q⟩ := List.mem_map.mp z
    have z := g.all p (by rw [kk]; exact hp)
    rw [q] at z
    exact z
  have n2 : ((dedup ds).map nk).Nodup := nodup_map (nodup_dedup ds) fun a ha b hb q => nk_inj a b (hashables_mem hh a (mem_dedup.mp ha)) (hashables_mem hh b (mem_dedup.mp hb)) q
  have l1 := nodup_len _ _ nd m1
  have l2 := nodup_len _ _ n2 m2
  simp only [List.length_map] at l1 l2
  omega
section
variable {X : Cx} {Γ : Glo} {pins : List (Addr × Obj)} {σ : St} {H Hm : Hp} {s : Shared} {i : List Addr}
mutual
theorem nest_of (I : Inv X pins σ H s) (hK : X.K = Γ.K) (hl : Le Hm H) : ∀ (d : D) (x : V) (v : Value), hashable d = true → Rep Γ Hm i x d → RelV x v → NestedIs s.heap (nk d) v
  | .str x, _, _, _, h, r => by cases h; obtain ⟨t, rfl⟩ := r; exact .text _ _
  | .int n, _, _, _, h, r => by cases h; obtain ⟨t, rfl⟩ := r; exact .int _ _
  | .tup ds, _, _, z, h, r => by
    cases h with
    | tup hs rs =>
      cases r
      have hs := SqT.le hl hs
      rw [← hK] at hs
      obtain ⟨its, rv, ⟨o, ho, hc, n, hd⟩, _⟩ := I.tuple hs
      simp only [hashable] at z
      exact .tup ho hc hd (by simpa using nests_of I hK hl ds _ its z rs rv)
  | .non, _, _, h, _, _ => by simp [hashable] at h
  | .bl _, _, _, h, _, _ => by simp [hashable] at h
  | .lst _, _, _, h, _, _ => by simp [hashable] at h
  | .dct _ _, _, _, h, _, _ => by simp [hashable] at h
  | .ins _ _ _, _, _, h, _, _ => by simp [hashable] at h
  | .loc _, _, _, h, _, _ => by simp [hashable] at h
theorem nests_of (I : Inv X pins σ H s) (hK : X.K = Γ.K) (hl : Le Hm H) : ∀ (ds : List D) (xs : List V) (vs : List Value), hashables ds = true → Reps Γ Hm i xs ds → Vals xs vs → NestedAll s.heap (nks ds) vs
  | [], _, _, _, h, r => by cases h; cases r; exact .nil
  | d :: ds, _, _, z, h, r => by
    cases h with
    | cons h hs =>
      cases r with
      | cons r rs =>
        simp only [hashables, Bool.and_eq_true] at z
        exact .cons (nest_of I hK hl d _ _ z.1 h r) (nests_of I hK hl ds _ _ z.2 hs rs)
end
end
theorem all_at' {h : Heap} : ∀ {ks : List NestedKey} {vs : List Value}, NestedAll h ks vs → ∀ p ∈ vs.zip ks, NestedIs h p.2 p.1
  | _, _, .nil, p, hp => nomatch hp
  | _, _, .cons r rs, p, hp => by
    rcases List.mem_cons.mp hp with e | hp
    · rw [e]; exact r
    · exact all_at' rs p hp
theorem depth_mem : ∀ {ks : List NestedKey} {n : Nat}, NestedKey.depthAll ks ≤ n → ∀ k ∈ ks, k.depth ≤ n
  | k :: ks, n, h, x, hx => by
    simp only [NestedKey.depthAll] at h
    rcases List.mem_cons.mp hx with e | hx
    · rw [e]; omega
    · exact depth_mem (by omega) x hx
theorem b_lset_ok {m : List D} {d e : D} (h : b_lset m [d] = some e) : ∃ xs, seqOf m d = some xs ∧ setOk xs = true ∧ e = .int (dedup xs).length := by
  unfold b_lset at h
  cases q : seqOf m d with
  | none => simp [q] at h
  | some xs =>
    simp only [q] at h
    by_cases c : setOk xs = true
    · refine ⟨xs, rfl, c, ?_⟩
      have h : (if setOk xs = true then some (D.int (dedup xs).length) else none) = some e := h
      rw [if_pos c] at h
      exact (Option.some.inj h).symm
    · have h : (if setOk xs = true then some (D.int (dedup xs).length) else none) = some e := h
      rw [if_neg c] at h
      cases h
section
variable {Γ : Glo} {pn : Pn} {C : Nat → List D → List D → CO} {ini : Str → Option Nat}
/-- set(x), asked by its values -/
theorem set_any {X : Cx} {pins : List (Addr × Obj)} {σ : St} {H Hm : Hp} {s : Shared} {i : List Addr} {a : Addr} {xs : List V} {ds : List D} (I : Inv X pins σ H s) (hK : X.K = Γ.K) (hl : Le Hm H) (hc : X.calm = true) (hu : X.A.units + 70 < cLine)
    (rs : Reps Γ Hm i xs ds) (hs : SqT X.K H a xs ∨ SqL X.K H a xs) (ok : setOk ds = true) {Q : Value → Shared → Prop} {E : Value → Shared → Prop}
    (h : ∀ (h' : Heap) (tk : Nat) (HS : Holds X.prog X.w s.heap.objs.size) (ks L : List (Value × NestedKey)), ks.map (·.2) = nks ds → HS.Z h' L → Met ks ks.length L → (∀ b o, s.heap.get? b = some o → h'.get? b = some o) → Q (.ref s.heap.objs.size) { s with heap := h', toks := tk }) :
    wpAny (model X.prog X.w) X.A (PySem.call (.type "set") [.ref a]) Q E s := by
  unfold setOk at ok
  simp only [Bool.and_eq_true, Bool.or_eq_true, decide_eq_true_eq] at ok
  obtain ⟨⟨⟨ty, hh⟩, hd⟩, few⟩ := ok
  have there : (s.heap.push (newSetO X.w)).get? s.heap.objs.size = some (newSetO X.w) := Heap.get?_push_size _ rfl
  have main : ∀ its : List Value, Vals xs its → (∀ HS : Holds X.prog X.w s.heap.objs.size, (∀ p ∈ its.zip (nks ds), HS.It s.heap p) → HS.Z (s.heap.push (newSetO X.w)) [] → wpAny (model X.prog X.w) X.A (PySem.call (.type "set") [.ref a]) Q E s) → wpAny (model X.prog X.w) X.A (PySem.call (.type "set") [.ref a]) Q E s := fun its rv go => by
    have nest := nests_of I hK hl ds _ its hh rs rv
    rcases ty with ty | ty
    · refine go (txtSets X.prog X.w _) (fun p hp => ?_) (txt_fresh there)
      have z := all_at' nest p hp
      have hm : p.2 ∈ nks ds := (List.of_mem_zip hp).2
      rw [nks_map] at hm
      obtain ⟨d, hd, e⟩ := List.mem_map.mp hm
      have t := List.all_eq_true.mp ty d hd
      cases d <;> simp [isStr] at t
      rename_i x
      obtain ⟨v, k⟩ := p
      have e : NestedKey.text x = k := e
      subst e
      cases z
      exact ⟨_, _, rfl⟩
    · refine go (tupSets X.prog X.w _) (fun p hp => ?_) (tup_fresh there)
      have z := all_at' nest p hp
      have hm : p.2 ∈ nks ds := (List.of_mem_zip hp).2
      refine ⟨z, depth_mem (by rw [kdeps_nk]; exact hd) _ hm, ?_⟩
      rw [nks_map] at hm
      obtain ⟨d, hd, e⟩ := List.mem_map.mp hm
      have t := List.all_eq_true.mp ty d hd
      cases d <;> simp [isTup] at t
      rename_i ys
      obtain ⟨v, k⟩ := p
      have e : NestedKey.tup (nks ys) = k := by simpa only [nk] using e
      subst e
      cases z
      exact ⟨_, rfl⟩
  have lens : ∀ its : List Value, Vals xs its → its.length = (nks ds).length := fun its rv => by rw [← rv.length, rs.length, nks_map, List.length_map]
  rcases hs with hs | hs
  · obtain ⟨its, rv, pl, hz⟩ := I.tuple hs
    refine main its rv fun HS hk h0 => ?_
    have e1 : (its.zip (nks ds)).map (·.1) = its := List.map_fst_zip (Nat.le_of_eq (lens its rv))
    have e2 : (its.zip (nks ds)).map (·.2) = nks ds := List.map_snd_zip (Nat.le_of_eq (lens its rv).symm)
    refine set_tuple (its.zip (nks ds)) HS (I.ok.hd hc) pl (by rw [e1]) hk ?_ (by omega) h0 fun h' tk L z g k => h h' tk HS _ L e2 z g k
    rw [← List.length_map (f := (·.2)), e2, nks_map, List.length_map]; exact few
  · obtain ⟨its, rv, pl, hz⟩ := I.list hs
    refine main its rv fun HS hk h0 => ?_
    have e1 : (its.zip (nks ds)).map (·.1) = its := List.map_fst_zip (Nat.le_of_eq (lens its rv))
    have e2 : (its.zip (nks ds)).map (·.2) = nks ds := List.map_snd_zip (Nat.le_of_eq (lens its rv).symm)
    refine set_list (its.zip (nks ds)) HS (I.ok.hd hc) pl.isList (by rw [e1]) hk ?_ (by omega) h0 fun h' tk L z g k => h h' tk HS _ L e2 z g k
    rw [← List.length_map (f := (·.2)), e2, nks_map, List.length_map]; exact few
theorem hset_all : HSet Γ pn C ini := by
  intro X c p p2 q pos a ma F hg hg2 ns ha
  refine ⟨fun pins s σ H Q I h => ?_⟩
  obtain ⟨G, Hm, i, r, m, x, h⟩ := h
  rw [ev_bi1] at h
  have ha := ha.run pins s σ H (fun v H1 => ∃ Hm i r m o d k, R Γ G Hm i r m σ H1 ∧ OpRep Γ Hm i σ v o ∧ opD r o = some d ∧ b_lset m [d] = some (.int k) ∧ Q (.int k) H1) I ⟨G, Hm, i, r, m, x, h.bind.imp fun o r1 m1 Hm1 i1 H1 _ x1 h1 v rv => by
    cases e : opsD r1 [o] with
    | none => rw [e] at h1; exact h1.elim
    | some ds =>
      obtain ⟨d, rfl, ed⟩ := one e
      rw [e] at h1
      have h1 : After Γ G σ KEF Hm1 i1 (lift (b_lset m1 [d]) r1 m1) _ := h1
      cases e2 : b_lset m1 [d] with
      | none => rw [e2] at h1; exact h1.elim
      | some z =>
        rw [e2] at h1
        obtain ⟨_, _, _, rfl⟩ := b_lset_ok e2
        exact ⟨Hm1, i1, r1, m1, o, d, _, x1, rv, ed, e2, h1.here x1 _ (.int _)⟩⟩
  refine PyProof.Rows.Call_ (ld_blt I hg (F.blt "len" (by decide)) PySem.boot_len ?_)
  refine PyProof.Rows.callWith_builtin1 (PyProof.Rows.args_cons ?_ rfl) rfl rfl
  refine PyProof.Rows.Call_ (ld_blt I hg2 (F.blt "set" (by decide)) PyProof.Rows.boot_set ?_)
  have na : starEach [a] X.env = (false, eval a X.env) :: starEach [] X.env := star_cons ns
  refine PyProof.Rows.callWith_type1 (PyProof.Rows.args_cons (thn ha fun v s1 ⟨y, H1, I1, r1, q1⟩ => PyProof.Rows.args_nil ?_) na) na rfl
  obtain ⟨Hm1, i1, r', m1, o, d, k, x1, rv, ed, e2, q1⟩ := q1
  obtain ⟨ds, e3, ok, ek⟩ := b_lset_ok e2
  obtain ⟨l, xs, rfl, rs, hs⟩ := (rv.look x1 ed).seq x1 e3
  cases r1
  rw [← F.K] at hs
  refine set_any I1 F.K x1.sub F.calm F.hu rs (hs.imp (·.1) (·.1)) ok fun h' tk HS ks L e4 z g k' => ?_
  refine PyProof.Rows.args_nil ?_
  obtain ⟨o, es, ep, t, b1, b2, b3, b4, b5⟩ := HS.ob z
  have hh : hashables ds = true := by
    unfold setOk at ok
    simp only [Bool.and_eq_true] at ok
    exact ok.1.1.2
  have len := met_len e4 hh g (HS.nd z)
  have few : L.length ≤ 300 := by
    have z1 := g.len
    have z2 : ks.length = ds.length := by rw [← List.length_map (f := (·.2)), e4, nks_map, List.length_map]
    unfold setOk at ok
    simp only [Bool.and_eq_true, decide_eq_true_eq] at ok
    omega
  have I2 : Inv X pins σ H1 { s1 with heap := h', toks := tk } := I1.kept fun b o e => k' b o e
  cases ek
  refine call_len_set b1 b2 b3 b4 (by rw [b5]; omega) ⟨.int (dedup ds).length, H1, I2.tok _, ⟨_, by rw [b5, len]⟩, q1⟩
end
end Mi
end
section
set_option maxRecDepth 100000
/-! Mi: running the evaluator, step by step. -/
namespace Mi
open PySem
/-- it comes to a result that Q holds of -/
def Run {α : Type} (o : O α) (Q : α → List Sl → List D → Prop) : Prop := ∃ a r m, o = .ok a r m ∧ Q a r m
section
variable {C : Nat → List D → List D → CO} {ini : Str → Option Nat} {W : Nat} {r : List Sl} {m : List D}
theorem run_ok {α : Type} {a : α} {Q : α → List Sl → List D → Prop} (h : Q a r m) : Run (.ok a r m) Q := ⟨a, r, m, rfl, h⟩
theorem run_bind {α β : Type} {o : O α} {f : α → List Sl → List D → O β} {Q : β → List Sl → List D → Prop} (h : Run o fun a r m => Run (f a r m) Q) : Run (o.bind f) Q := by
  obtain ⟨a, r, m, rfl, h⟩ := h
  exact h
theorem run_lift {α : Type} {o : Option α} {a : α} {Q : α → List Sl → List D → Prop} (e : o = some a) (h : Q a r m) : Run (lift o r m) Q := by
  subst e; exact run_ok h
theorem run_k {d : D} {Q : D → List Sl → List D → Prop} (h : Q d r m) : Run (evE C ini (.k d) r m) Q := by rw [evE]; exact run_ok h
theorem run_gl {x : Str} {d : D} {Q : D → List Sl → List D → Prop} (h : Q d r m) : Run (evE C ini (.gl x d) r m) Q := by rw [evE]; exact run_ok h
theorem run_v {i : Nat} {d : D} {Q : D → List Sl → List D → Prop} (e : slotV r i = some d) (h : Q d r m) : Run (evE C ini (.v i) r m) Q := by rw [evE]; exact run_lift e h
theorem run_bi {f : Bi} {as : List A} {Q : D → List Sl → List D → Prop} (h : Run (evAs C ini as r m) fun os r m => ∃ ds d, opsD r os = some ds ∧ biEval m f ds = some d ∧ Q d r m) : Run (evE C ini (.bi f as) r m) Q := by
  rw [evE]
  refine run_bind ?_
  obtain ⟨os, r1, m1, e, ds, d, e1, e2, h⟩ := h
  refine ⟨os, r1, m1, e, ?_⟩
  dsimp only
  rw [e1]
  exact run_lift e2 h
theorem run_and {es : List E} {Q : D → List Sl → List D → Prop} (h : Run (evAnd C ini es r m) fun b r m => Q (.bl b) r m) : Run (evE C ini (.and es) r m) Q := by
  rw [evE]
  refine run_bind ?_
  obtain ⟨b, r1, m1, e, h⟩ := h
  exact ⟨b, r1, m1, e, run_ok h⟩
theorem run_or {es : List E} {Q : D → List Sl → List D → Prop} (h : Run (evOr C ini es r m) fun b r m => Q (.bl b) r m) : Run (evE C ini (.or es) r m) Q := by
  rw [evE]
  refine run_bind ?_
  obtain ⟨b, r1, m1, e, h⟩ := h
  exact ⟨b, r1, m1, e, run_ok h⟩
theorem run_and_nil {Q : Bool → List Sl → List D → Prop} (h : Q true r m) : Run (evAnd C ini [] r m) Q := by rw [evAnd]; exact run_ok h
theorem run_or_nil {Q : Bool → List Sl → List D → Prop} (h : Q false r m) : Run (evOr C ini [] r m) Q := by rw [evOr]; exact run_ok h
/-- a value that is a truth -/
def isB (d : D) (Q : Bool → Prop) : Prop := ∃ b, d = .bl b ∧ Q b
theorem run_and_cons {e : E} {es : List E} {Q : Bool → List Sl → List D → Prop} (h : Run (evE C ini e r m) fun d r m => ∃ b, d = .bl b ∧ (b = true → Run (evAnd C ini es r m) Q) ∧ (b = false → Q false r m)) : Run (evAnd C ini (e :: es) r m) Q := by
  rw [evAnd]
  refine run_bind ?_
  obtain ⟨d, r1, m1, e, b, rfl, h1, h2⟩ := h
  refine ⟨_, r1, m1, e, ?_⟩
  cases b with
  | true => exact h1 rfl
  | false => exact run_ok (h2 rfl)
theorem run_or_cons {e : E} {es : List E} {Q : Bool → List Sl → List D → Prop} (h : Run (evE C ini e r m) fun d r m => ∃ b, d = .bl b ∧ (b = false → Run (evOr C ini es r m) Q) ∧ (b = true → Q true r m)) : Run (evOr C ini (e :: es) r m) Q := by
  rw [evOr]
  refine run_bind ?_
  obtain ⟨d, r1, m1, e, b, rfl, h1, h2⟩ := h
  refine ⟨_, r1, m1, e, ?_⟩
  cases b with
  | true => exact run_ok (h2 rfl)
  | false => exact h1 rfl
theorem run_not {e : E} {Q : D → List Sl → List D → Prop} (h : Run (evE C ini e r m) fun d r m => ∃ b, d = .bl b ∧ Q (.bl (!b)) r m) : Run (evE C ini (.not e) r m) Q := by
  rw [evE]
  refine run_bind ?_
  obtain ⟨d, r1, m1, e, b, rfl, h⟩ := h
  exact ⟨_, r1, m1, e, run_ok h⟩
theorem run_ife {c a b : E} {Q : D → List Sl → List D → Prop} (h : Run (evE C ini c r m) fun d r m => ∃ x, d = .bl x ∧ (x = true → Run (evE C ini a r m) Q) ∧ (x = false → Run (evE C ini b r m) Q)) : Run (evE C ini (.ife c a b) r m) Q := by
  rw [evE]
  refine run_bind ?_
  obtain ⟨d, r1, m1, e, x, rfl, h1, h2⟩ := h
  refine ⟨_, r1, m1, e, ?_⟩
  cases x with
  | true => exact h1 rfl
  | false => exact h2 rfl
theorem run_tup {es : List E} {Q : D → List Sl → List D → Prop} (h : Run (evEs C ini es r m) fun ds r m => Q (.tup ds) r m) : Run (evE C ini (.tup es) r m) Q := by
  rw [evE]
  refine run_bind ?_
  obtain ⟨ds, r1, m1, e, h⟩ := h
  exact ⟨ds, r1, m1, e, run_ok h⟩
theorem run_lst {es : List E} {Q : D → List Sl → List D → Prop} (h : Run (evEs C ini es r m) fun ds r m => Q (.lst ds) r m) : Run (evE C ini (.lst es) r m) Q := by
  rw [evE]
  refine run_bind ?_
  obtain ⟨ds, r1, m1, e, h⟩ := h
  exact ⟨ds, r1, m1, e, run_ok h⟩
theorem run_nil {Q : List D → List Sl → List D → Prop} (h : Q [] r m) : Run (evEs C ini [] r m) Q := by rw [evEs]; exact run_ok h
theorem run_cons {e : E} {es : List E} {Q : List D → List Sl → List D → Prop} (h : Run (evE C ini e r m) fun d r m => Run (evEs C ini es r m) fun ds r m => Q (d :: ds) r m) : Run (evEs C ini (e :: es) r m) Q := by
  rw [evEs]
  refine run_bind ?_
  obtain ⟨d, r1, m1, e, ds, r2, m2, e2, h⟩ := h
  exact ⟨d, r1, m1, e, run_bind ⟨ds, r2, m2, e2, run_ok h⟩⟩
theorem run_anil {Q : List Op → List Sl → List D → Prop} (h : Q [] r m) : Run (evAs C ini [] r m) Q := by rw [evAs]; exact run_ok h
theorem run_acons {a : A} {as : List A} {Q : List Op → List Sl → List D → Prop} (h : Run (evA C ini a r m) fun d r m => Run (evAs C ini as r m) fun ds r m => Q (d :: ds) r m) : Run (evAs C ini (a :: as) r m) Q := by
  rw [evAs]
  refine run_bind ?_
  obtain ⟨d, r1, m1, e, ds, r2, m2, e2, h⟩ := h
  exact ⟨d, r1, m1, e, run_bind ⟨ds, r2, m2, e2, run_ok h⟩⟩
theorem run_ae {e : E} {Q : Op → List Sl → List D → Prop} (h : Run (evE C ini e r m) fun d r m => Q (.d d) r m) : Run (evA C ini (.e e) r m) Q := by
  rw [evA]
  refine run_bind ?_
  obtain ⟨d, r1, m1, e, h⟩ := h
  exact ⟨d, r1, m1, e, run_ok h⟩
theorem run_ab {i : Nat} {d : D} {Q : Op → List Sl → List D → Prop} (e : slotD r i = some d) (h : Q (.b i) r m) : Run (evA C ini (.b i) r m) Q := by
  rw [evA, e]; exact run_ok h
theorem run_calls {f : Nat} {ds : List D} {d : D} {m' : List D} {Q : D → List Sl → List D → Prop} (e : C f ds m = .ok d m') (h : Q d r m') : Run (calls C f ds r m) Q := by
  unfold calls
  rw [e]
  exact run_ok h
theorem run_call {f : Nat} {es : List E} {Q : D → List Sl → List D → Prop} (h : Run (evEs C ini es r m) fun ds r m => ∃ d m', C f ds m = .ok d m' ∧ Q d r m') : Run (evE C ini (.call f es) r m) Q := by
  rw [evE]
  refine run_bind ?_
  obtain ⟨ds, r1, m1, e, d, m', e2, h⟩ := h
  exact ⟨ds, r1, m1, e, run_calls e2 h⟩
theorem run_mk {c : Str} {f : Nat} {es : List E} {Q : D → List Sl → List D → Prop} (hi : ini c = some f) (h : Run (evEs C ini es r m) fun ds r m => ∃ d m', C f ds m = .ok d m' ∧ Q d r m') : Run (evE C ini (.mk c es) r m) Q := by
  rw [evE]
  refine run_bind ?_
  obtain ⟨ds, r1, m1, e, d, m', e2, h⟩ := h
  refine ⟨ds, r1, m1, e, ?_⟩
  dsimp only
  rw [hi]
  exact run_calls e2 h
theorem run_att {a : A} {f : Str} {c : Str} {ns : List Str} {vs : List D} {Q : D → List Sl → List D → Prop} (h : Run (evA C ini a r m) fun o r m => ∃ c ns vs d, (opD r o).bind (deref m) = some (.ins c ns vs) ∧ (ns.zip vs).lookup f = some d ∧ Q d r m) : Run (evE C ini (.att a f) r m) Q := by
  rw [evE]
  refine run_bind ?_
  obtain ⟨o, r1, m1, e, c, ns, vs, d, e1, e2, h⟩ := h
  refine ⟨o, r1, m1, e, ?_⟩
  dsimp only
  rw [e1]
  exact run_lift e2 h
theorem run_isi {tu : Bool} {a : A} {ts : List Str} {Q : D → List Sl → List D → Prop} (h : Run (evA C ini a r m) fun o r m => ∃ d b, opD r o = some d ∧ isTypes d ts = some b ∧ Q (.bl b) r m) : Run (evE C ini (.isi tu a ts) r m) Q := by
  rw [evE]
  refine run_bind ?_
  obtain ⟨o, r1, m1, e, d, b, e1, e2, h⟩ := h
  refine ⟨o, r1, m1, e, ?_⟩
  dsimp only
  rw [e1]
  exact run_lift (by rw [e2]; rfl) h
theorem run_chain {f g : Bi} {a b c : E} {Q : D → List Sl → List D → Prop} (h : Run (evE C ini a r m) fun x r m => Run (evE C ini b r m) fun y r m => ∃ z, biEval m f [x, y] = some (.bl z) ∧ (z = true → Run (evE C ini c r m) fun w r m => ∃ d, biEval m g [y, w] = some d ∧ Q d r m) ∧ (z = false → Q (.bl false) r m)) : Run (evE C ini (.chain f g a b c) r m) Q := by
  rw [evE]
  refine run_bind ?_
  obtain ⟨x, r1, m1, e, y, r2, m2, e2, z, e3, h1, h2⟩ := h
  refine ⟨x, r1, m1, e, run_bind ⟨y, r2, m2, e2, ?_⟩⟩
  dsimp only
  rw [e3]
  cases z with
  | true =>
    refine run_bind ?_
    obtain ⟨w, r3, m3, e4, d, e5, h⟩ := h1 rfl
    exact ⟨w, r3, m3, e4, run_lift e5 h⟩
  | false => exact run_ok (h2 rfl)
theorem run_s00 {a : A} {Q : D → List Sl → List D → Prop} (h : Run (evA C ini a r m) fun o r m => ∃ d, (opD r o).bind (sliceOf m none none) = some d ∧ Q d r m) : Run (evE C ini (.s00 a) r m) Q := by
  rw [evE]
  refine run_bind ?_
  obtain ⟨o, r1, m1, e, d, e1, h⟩ := h
  exact ⟨o, r1, m1, e, run_lift e1 h⟩
theorem run_s10 {a : A} {e : E} {Q : D → List Sl → List D → Prop} (h : Run (evA C ini a r m) fun o r m => Run (evE C ini e r m) fun x r m => ∃ n d, x = .int n ∧ (opD r o).bind (sliceOf m (some n) none) = some d ∧ Q d r m) : Run (evE C ini (.s10 a e) r m) Q := by
  rw [evE]
  refine run_bind ?_
  obtain ⟨o, r1, m1, e0, x, r2, m2, e2, n, d, rfl, e1, h⟩ := h
  exact ⟨o, r1, m1, e0, run_bind ⟨_, r2, m2, e2, run_lift e1 h⟩⟩
theorem run_s01 {a : A} {e : E} {Q : D → List Sl → List D → Prop} (h : Run (evA C ini a r m) fun o r m => Run (evE C ini e r m) fun x r m => ∃ n d, x = .int n ∧ (opD r o).bind (sliceOf m none (some n)) = some d ∧ Q d r m) : Run (evE C ini (.s01 a e) r m) Q := by
  rw [evE]
  refine run_bind ?_
  obtain ⟨o, r1, m1, e0, x, r2, m2, e2, n, d, rfl, e1, h⟩ := h
  exact ⟨o, r1, m1, e0, run_bind ⟨_, r2, m2, e2, run_lift e1 h⟩⟩
theorem run_lc {ow : List Nat} {e : E} {t : T} {i : I} {cs : List E} {Q : D → List Sl → List D → Prop} (h : Run (evI C ini i r m) fun xs r m => noOwn r ow = true ∧ big xs = true ∧ ∃ ys r' m', turns (Mi.wipe r ow) t (lcF C ini e cs) xs m = .ok ys r' m' ∧ Q (.lst ys) r m') : Run (evE C ini (.lc ow e t i cs) r m) Q := by
  rw [lc_ev]
  refine run_bind ?_
  obtain ⟨xs, r1, m1, e1, h1, h2, ys, r', m', e2, h⟩ := h
  refine ⟨xs, r1, m1, e1, ?_⟩
  dsimp only
  rw [if_pos (by rw [h1, h2]; rfl)]
  exact run_bind ⟨ys, r', m', e2, run_ok h⟩
/-- a comprehension that only looks -/
theorem turns_look {r0 : List Sl} {t : T} {f : List Sl → List D → O (Option D)} {g : D → Option D} : ∀ {xs : List D}, (∀ x ∈ xs, ∃ r', assignT t x r0 = some r' ∧ f r' m = .ok (g x) r' m) → turns r0 t f xs m = .ok (xs.filterMap g) r0 m
  | [], _ => rfl
  | x :: xs, h => by
    obtain ⟨r', e1, e2⟩ := h x List.mem_cons_self
    have ih := turns_look (xs := xs) fun y hy => h y (List.mem_cons_of_mem _ hy)
    rw [turns, e1]
    dsimp only
    rw [e2]
    dsimp only
    rw [if_pos rfl, ih]
    simp only [O.bind, List.filterMap_cons]
    cases g x <;> rfl
theorem run_lcF {e : E} {cs : List E} {Q : Option D → List Sl → List D → Prop} (h : Run (evAnd C ini cs r m) fun b r m => (b = true → Run (evE C ini e r m) fun d r m => Q (some d) r m) ∧ (b = false → Q none r m)) : Run (lcF C ini e cs r m) Q := by
  unfold lcF
  refine run_bind ?_
  obtain ⟨b, r1, m1, e1, h1, h2⟩ := h
  refine ⟨b, r1, m1, e1, ?_⟩
  cases b with
  | true =>
    obtain ⟨d, r2, m2, e2, h⟩ := h1 rfl
    exact run_bind ⟨d, r2, m2, e2, run_ok h⟩
  | false => exact run_ok (h2 rfl)
theorem run_loop {t : T} {f : List Sl → List D → O F} {xs : List D} {Q : F → List Sl → List D → Prop} (I : Nat → List Sl → List D → Prop) (h0 : I 0 r m)
    (step : ∀ k x r m, xs[k]? = some x → I k r m → ∃ r', assignT t x r = some r' ∧ Run (f r' m) fun k' r m => (k' = .nx ∧ I (k + 1) r m) ∨ ∃ d, k' = .rt d ∧ Q (.rt d) r m) (hend : ∀ r m, I xs.length r m → Q .nx r m) : Run (loopF t f xs r m) Q := by
  induction xs generalizing I r m with
  | nil => rw [loopF]; exact run_ok (hend r m h0)
  | cons y ys ih =>
    obtain ⟨r', e1, k', r2, m2, e2, h⟩ := step 0 y r m rfl h0
    rw [loopF, e1]
    dsimp only
    refine run_bind ⟨k', r2, m2, e2, ?_⟩
    rcases h with ⟨rfl, h⟩ | ⟨d, rfl, h⟩
    · exact ih (fun k => I (k + 1)) h (fun k x r m e hI => step (k + 1) x r m (by simpa using e) hI) fun r m hI => hend r m hI
    · exact run_ok h
theorem run_while {c : List Sl → List D → O D} {f : List Sl → List D → O F} {Q : F → List Sl → List D → Prop} (I : Nat → List Sl → List D → Prop) {n0 : Nat} (h0 : I n0 r m) (hW : n0 < W)
    (step : ∀ n r m, I n r m → Run (c r m) fun d r m => ∃ b, d = .bl b ∧ (b = true → Run (f r m) fun k' r m => (k' = .nx ∧ ∃ n', n' < n ∧ I n' r m) ∨ ∃ d, k' = .rt d ∧ Q (.rt d) r m) ∧ (b = false → Q .nx r m)) : Run (loopW c f W r m) Q := by
  induction W generalizing n0 r m with
  | zero => exact absurd hW (Nat.not_lt_zero _)
  | succ W ih =>
    obtain ⟨d, r1, m1, e1, b, rfl, h1, h2⟩ := step n0 r m h0
    rw [loopW]
    refine run_bind ⟨_, r1, m1, e1, ?_⟩
    cases b with
    | false => exact run_ok (h2 rfl)
    | true =>
      obtain ⟨k', r2, m2, e2, h⟩ := h1 rfl
      refine run_bind ⟨k', r2, m2, e2, ?_⟩
      rcases h with ⟨rfl, n', hn, h⟩ | ⟨d, rfl, h⟩
      · exact ih h (by omega)
      · exact run_ok h
theorem run_seq {e : E} {Q : List D → List Sl → List D → Prop} (h : Run (evE C ini e r m) fun d r m => ∃ xs, seqK d = some xs ∧ Q xs r m) : Run (evI C ini (.seq e) r m) Q := by
  rw [evI]
  refine run_bind ?_
  obtain ⟨d, r1, m1, e1, xs, e2, h⟩ := h
  exact ⟨d, r1, m1, e1, run_lift e2 h⟩
theorem run_enum {e : E} {Q : List D → List Sl → List D → Prop} (h : Run (evE C ini e r m) fun d r m => ∃ xs, seqF d = some xs ∧ Q (enumD 0 xs) r m) : Run (evI C ini (.enum e) r m) Q := by
  rw [evI]
  refine run_bind ?_
  obtain ⟨d, r1, m1, e1, xs, e2, h⟩ := h
  exact ⟨d, r1, m1, e1, run_lift (by rw [e2]; rfl) h⟩
theorem run_rng {e : E} {Q : List D → List Sl → List D → Prop} (h : Run (evE C ini e r m) fun d r m => ∃ n, d = .int n ∧ small62 n = true ∧ Q (rngD 0 n) r m) : Run (evI C ini (.rng e) r m) Q := by
  rw [evI]
  refine run_bind ?_
  obtain ⟨d, r1, m1, e1, n, rfl, e2, h⟩ := h
  refine ⟨_, r1, m1, e1, ?_⟩
  dsimp only
  rw [if_pos e2]
  exact run_ok h
/-! statements -/
theorem run_snil {Q : F → List Sl → List D → Prop} (h : Q .nx r m) : Run (evSs C ini W [] r m) Q := by rw [evSs]; exact run_ok h
theorem run_scons {s : S} {ss : List S} {Q : F → List Sl → List D → Prop} (h : Run (evS C ini W s r m) fun k r m => (k = .nx ∧ Run (evSs C ini W ss r m) Q) ∨ ∃ d, k = .rt d ∧ Q (.rt d) r m) : Run (evSs C ini W (s :: ss) r m) Q := by
  rw [evSs]
  refine run_bind ?_
  obtain ⟨k, r1, m1, e1, h⟩ := h
  refine ⟨k, r1, m1, e1, ?_⟩
  rcases h with ⟨rfl, h⟩ | ⟨d, rfl, h⟩
  · exact h
  · exact run_ok h
theorem run_ret {e : E} {Q : F → List Sl → List D → Prop} (h : Run (evE C ini e r m) fun d r m => Q (.rt d) r m) : Run (evS C ini W (.ret e) r m) Q := by
  rw [evS]
  refine run_bind ?_
  obtain ⟨d, r1, m1, e1, h⟩ := h
  exact ⟨d, r1, m1, e1, run_ok h⟩
theorem run_retF {e : E} {Q : F → List Sl → List D → Prop} (h : Run (evE C ini e r m) fun d r m => isCont d = true ∧ Q (.rt d) r m) : Run (evS C ini W (.retF e) r m) Q := by
  rw [evS]
  refine run_bind ?_
  obtain ⟨d, r1, m1, e1, hc, h⟩ := h
  refine ⟨d, r1, m1, e1, ?_⟩
  dsimp only
  rw [if_pos hc]
  exact run_ok h
theorem run_retO {i : Nat} {d : D} {Q : F → List Sl → List D → Prop} (e : slotO r i = some d) (hc : isCont d = true) (h : Q (.rt d) r m) : Run (evS C ini W (.retO i) r m) Q := by
  rw [evS, e]
  dsimp only
  rw [if_pos hc]
  exact run_ok h
theorem run_set {i : Nat} {e : E} {Q : F → List Sl → List D → Prop} (h : Run (evE C ini e r m) fun d r m => i < r.length ∧ Q .nx (r.set i (.v d)) m) : Run (evS C ini W (.set i e) r m) Q := by
  rw [evS]
  refine run_bind ?_
  obtain ⟨d, r1, m1, e1, hl, h⟩ := h
  refine ⟨d, r1, m1, e1, ?_⟩
  unfold Mi.setV
  dsimp only
  rw [if_pos hl]
  exact run_ok h
theorem run_setO {i : Nat} {e : E} {Q : F → List Sl → List D → Prop} (h : Run (evE C ini e r m) fun d r m => isCont d = true ∧ i < r.length ∧ Q .nx (r.set i (.o d)) m) : Run (evS C ini W (.setO i e) r m) Q := by
  rw [evS]
  refine run_bind ?_
  obtain ⟨d, r1, m1, e1, hc, hl, h⟩ := h
  refine ⟨d, r1, m1, e1, ?_⟩
  dsimp only
  rw [if_pos hc, if_pos hl]
  exact run_ok h
theorem run_ite {c : E} {a b : List S} {Q : F → List Sl → List D → Prop} (h : Run (evE C ini c r m) fun d r m => ∃ x, d = .bl x ∧ (x = true → Run (evSs C ini W a r m) Q) ∧ (x = false → Run (evSs C ini W b r m) Q)) : Run (evS C ini W (.ite c a b) r m) Q := by
  rw [evS]
  refine run_bind ?_
  obtain ⟨d, r1, m1, e, x, rfl, h1, h2⟩ := h
  refine ⟨_, r1, m1, e, ?_⟩
  cases x with
  | true => exact h1 rfl
  | false => exact h2 rfl
theorem run_for {t : T} {i : I} {b : List S} {Q : F → List Sl → List D → Prop} (h : Run (evI C ini i r m) fun xs r m => Run (loopF t (evSs C ini W b) xs r m) Q) : Run (evS C ini W (.for t i b) r m) Q := by
  rw [evS]
  exact run_bind h
theorem run_whileS {c : E} {b : List S} {Q : F → List Sl → List D → Prop} (h : Run (loopW (evE C ini c) (evSs C ini W b) W r m) Q) : Run (evS C ini W (.while c b) r m) Q := by
  rw [evS]
  exact h
theorem run_fr {is : List Nat} {s : S} {Q : F → List Sl → List D → Prop} (h : Run (evS C ini W s (freeze r is) m) Q) : Run (evS C ini W (.fr is s) r m) Q := by
  rw [evS]
  exact h
theorem run_app {i : Nat} {e : E} {xs0 : List D} {Q : F → List Sl → List D → Prop} (h0 : r[i]? = some (.o (.lst xs0))) (h : Run (evE C ini e r m) fun d r m => ∃ xs, slotO r i = some (.lst xs) ∧ xs.length < 1000000 ∧ Q .nx (r.set i (.o (.lst (xs ++ [d])))) m) : Run (evS C ini W (.app i e) r m) Q := by
  rw [evS, if_pos (by unfold isLstO; rw [h0])]
  refine run_bind ?_
  obtain ⟨d, r1, m1, e1, xs, e2, hl, h⟩ := h
  refine ⟨d, r1, m1, e1, ?_⟩
  dsimp only
  rw [e2]
  dsimp only
  rw [if_pos hl]
  exact run_ok h
theorem run_ext {i : Nat} {e : E} {xs0 : List D} {Q : F → List Sl → List D → Prop} (h0 : r[i]? = some (.o (.lst xs0))) (h : Run (evE C ini e r m) fun d r m => ∃ xs ys, d = .lst ys ∧ slotO r i = some (.lst xs) ∧ xs.length + ys.length < 1000000 ∧ Q .nx (r.set i (.o (.lst (xs ++ ys)))) m) : Run (evS C ini W (.ext i e) r m) Q := by
  rw [evS, if_pos (by unfold isLstO; rw [h0])]
  refine run_bind ?_
  obtain ⟨d, r1, m1, e1, xs, ys, rfl, e2, hl, h⟩ := h
  refine ⟨_, r1, m1, e1, ?_⟩
  dsimp only
  rw [e2]
  dsimp only
  rw [if_pos hl]
  exact run_ok h
theorem run_setT {t : T} {e : E} {Q : F → List Sl → List D → Prop} (h : Run (evE C ini e r m) fun d r m => ∃ r', assignT t d r = some r' ∧ Q .nx r' m) : Run (evS C ini W (.setT t e) r m) Q := by
  rw [evS]
  refine run_bind ?_
  obtain ⟨d, r1, m1, e1, r', e2, h⟩ := h
  refine ⟨d, r1, m1, e1, ?_⟩
  dsimp only
  rw [e2]
  exact run_ok h
theorem run_box {i : Nat} {e : E} {Q : F → List Sl → List D → Prop} (h : Run (evE C ini e r m) fun d r m => ∃ xs, d = .lst xs ∧ i < r.length ∧ Q .nx (r.set i (.v (.loc m.length))) (m ++ [.lst xs])) : Run (evS C ini W (.box i e) r m) Q := by
  rw [evS]
  refine run_bind ?_
  obtain ⟨d, r1, m1, e1, xs, rfl, hl, h⟩ := h
  refine ⟨_, r1, m1, e1, ?_⟩
  dsimp only
  rw [if_pos hl]
  exact run_ok h
theorem run_revs {i : Nat} {xs : List D} {Q : F → List Sl → List D → Prop} (e : slotO r i = some (.lst xs)) (h : Q .nx (r.set i (.o (.lst xs.reverse))) m) : Run (evS C ini W (.revs i) r m) Q := by
  rw [evS, e]; exact run_ok h
theorem run_setL {i : Nat} {k e : E} {Q : F → List Sl → List D → Prop} (h : Run (evE C ini e r m) fun d r m => ∃ n, slotV r i = some (.loc n) ∧ Run (evE C ini k r m) fun x r m => ∃ j xs, x = .int j ∧ m[n]? = some (.lst xs) ∧ (0 ≤ j ∧ j < xs.length ∧ j < 1000000) ∧ Q .nx r (m.set n (.lst (xs.set j.toNat d)))) : Run (evS C ini W (.setL i k e) r m) Q := by
  rw [evS]
  refine run_bind ?_
  obtain ⟨d, r1, m1, e1, n, e2, x, r2, m2, e3, j, xs, rfl, e4, hj, h⟩ := h
  refine ⟨d, r1, m1, e1, ?_⟩
  dsimp only
  rw [e2]
  dsimp only
  refine run_bind ⟨_, r2, m2, e3, ?_⟩
  dsimp only
  rw [e4]
  dsimp only
  rw [if_pos hj]
  exact run_ok h
theorem run_popA {i : Nat} {e : E} {xs0 : List D} {Q : D → List Sl → List D → Prop} (h0 : r[i]? = some (.o (.lst xs0))) (h : Run (evE C ini e r m) fun k r m => ∃ j xs d, k = .int j ∧ slotO r i = some (.lst xs) ∧ (0 ≤ j ∧ j < 1000000) ∧ xs[j.toNat]? = some d ∧ Q d (r.set i (.o (.lst (xs.eraseIdx j.toNat)))) m) : Run (evE C ini (.popA i e) r m) Q := by
  rw [evE, if_pos (by unfold isLstO; rw [h0])]
  refine run_bind ?_
  obtain ⟨k, r1, m1, e1, j, xs, d, rfl, e2, hj, e3, h⟩ := h
  refine ⟨_, r1, m1, e1, ?_⟩
  dsimp only
  rw [e2]
  dsimp only
  rw [if_pos hj, e3]
  exact run_ok h
def finF (kd : Kd) : O F → CO
  | .ok .nx _ m' => if kd = Kd.new then CO.bad else .ok .non m'
  | .ok (.rt d) _ m' => .ok d m'
  | .ex x _ m' => .ex x m'
  | .bad => .bad
theorem runFd_eq {f : Fd} {ds : List D} (hk : ∀ c, f.kd ≠ .init c) (hl : ds.length = f.ps) : runFd C ini W f ds m = finF f.kd (evSs C ini W f.body (ds.map Sl.v ++ List.replicate (f.ns.length - f.ps) .un) m) := by
  obtain ⟨ps, ns, kd, body⟩ := f
  dsimp only at hk hl ⊢
  unfold runFd
  cases kd with
  | init c => exact absurd rfl (hk c)
  | any => simp only [hl, if_true] <;> rfl
  | new => simp only [hl, if_true] <;> rfl
/-- a def from its body -/
theorem run_fd {f : Fd} {ds : List D} {Q : D → List D → Prop} (hk : ∀ c, f.kd ≠ .init c) (hl : ds.length = f.ps) (h : Run (evSs C ini W f.body (ds.map Sl.v ++ List.replicate (f.ns.length - f.ps) .un) m) fun k _ m' => (∃ d, k = .rt d ∧ Q d m') ∨ (k = .nx ∧ f.kd ≠ Kd.new ∧ Q .non m')) : ∃ d m', runFd C ini W f ds m = .ok d m' ∧ Q d m' := by
  obtain ⟨k, r', m', e, h⟩ := h
  rw [runFd_eq hk hl, e]
  rcases h with ⟨d, rfl, h⟩ | ⟨rfl, hn, h⟩
  · exact ⟨d, m', rfl, h⟩
  · exact ⟨.non, m', if_neg hn, h⟩
end
end Mi
end
section
set_option maxRecDepth 100000
/-! Mi: running the evaluator: operations, calls. -/
namespace Mi
open PySem
/-- an operation's result -/
def Bo (m : List D) (f : Bi) (r : List Sl) (os : List Op) (Q : D → Prop) : Prop := ∃ ds d, opsD r os = some ds ∧ biEval m f ds = some d ∧ Q d
/-- a call's result -/
def RunC (o : CO) (Q : D → List D → Prop) : Prop := ∃ d m', o = .ok d m' ∧ Q d m'
theorem RunC.imp {o : CO} {Q Q' : D → List D → Prop} (h : RunC o Q) (k : ∀ d m', Q d m' → Q' d m') : RunC o Q' := by
  obtain ⟨d, m', e, q⟩ := h
  exact ⟨d, m', e, k d m' q⟩
theorem Run.imp {α : Type} {o : O α} {Q Q' : α → List Sl → List D → Prop} (h : Run o Q) (k : ∀ a r m, Q a r m → Q' a r m) : Run o Q' := by
  obtain ⟨d, r, m', e, q⟩ := h
  exact ⟨d, r, m', e, k d r m' q⟩
section
variable {C : Nat → List D → List D → CO} {ini : Str → Option Nat} {W : Nat} {r : List Sl} {m : List D}
theorem r_bi {f : Bi} {as : List A} {Q : D → List Sl → List D → Prop} (h : Run (evAs C ini as r m) fun os r m => Bo m f r os fun d => Q d r m) : Run (evE C ini (.bi f as) r m) Q :=
  run_bi (h.imp fun os r m ⟨ds, d, e1, e2, q⟩ => ⟨ds, d, e1, e2, q⟩)
theorem r_call {f : Nat} {es : List E} {Q : D → List Sl → List D → Prop} (h : Run (evEs C ini es r m) fun ds r m => RunC (C f ds m) fun d m' => Q d r m') : Run (evE C ini (.call f es) r m) Q :=
  run_call (h.imp fun ds r m ⟨d, m', e, q⟩ => ⟨d, m', e, q⟩)
theorem r_mk {c : Str} {f : Nat} {es : List E} {Q : D → List Sl → List D → Prop} (hi : ini c = some f) (h : Run (evEs C ini es r m) fun ds r m => RunC (C f ds m) fun d m' => Q d r m') : Run (evE C ini (.mk c es) r m) Q :=
  run_mk hi (h.imp fun ds r m ⟨d, m', e, q⟩ => ⟨d, m', e, q⟩)
theorem bo_of {f : Bi} {os : List Op} {ds : List D} {d : D} {Q : D → Prop} (e1 : opsD r os = some ds) (e2 : biEval m f ds = some d) (h : Q d) : Bo m f r os Q := ⟨ds, d, e1, e2, h⟩
theorem bo_mod {os : List Op} {i j : Int} {Q : D → Prop} (e1 : opsD r os = some [.int i, .int j]) (hj : j ≠ 0) (h : Q (.int (i.fmod j))) : Bo m .mod r os Q := ⟨_, _, e1, if_pos hj, h⟩
theorem bits_le {j : Int} {n : Nat} (h0 : 0 ≤ j) (h : j < 2 ^ n) : bits j ≤ n := by
  unfold bits
  split
  · exact Nat.zero_le _
  · rename_i hj
    have e : j.natAbs < 2 ^ n := by
      have : ((j.natAbs : Nat) : Int) < ((2 ^ n : Nat) : Int) := by rw [Int.natAbs_of_nonneg h0]; exact_mod_cast h
      exact_mod_cast this
    have z : j.natAbs ≠ 0 := by omega
    have := (Nat.log2_lt z).mpr e
    omega
theorem bo_fdiv {os : List Op} {i j : Int} {Q : D → Prop} (e1 : opsD r os = some [.int i, .int j]) (hj : 0 < j) (hb : j < 2 ^ 100) (h : Q (.int (i.fdiv j))) : Bo m .fdiv r os Q :=
  ⟨_, _, e1, if_pos ⟨by omega, Nat.le_trans (bits_le (Int.le_of_lt hj) hb) (by decide)⟩, h⟩
theorem bo_mul {os : List Op} {i j : Int} {Q : D → Prop} (e1 : opsD r os = some [.int i, .int j]) (hm : i.natAbs < 2 ^ 64 ∨ j.natAbs < 2 ^ 64) (h : Q (.int (i * j))) : Bo m .mul r os Q :=
  ⟨_, _, e1, if_pos (by unfold mulOk; rcases hm with z | z <;> simp [z]), h⟩
theorem bo_pow {os : List Op} {i j : Int} {Q : D → Prop} (e1 : opsD r os = some [.int i, .int j]) (hj : 0 ≤ j ∧ j ≤ 1000 ∧ i.natAbs < 2 ^ 64) (h : Q (.int (i ^ j.toNat))) : Bo m .pow r os Q :=
  ⟨_, _, e1, if_pos hj, h⟩
theorem bo_addI {os : List Op} {i j : Int} {Q : D → Prop} (e1 : opsD r os = some [.int i, .int j]) (h : Q (.int (i + j))) : Bo m .add r os Q := ⟨_, _, e1, rfl, h⟩
theorem bo_subI {os : List Op} {i j : Int} {Q : D → Prop} (e1 : opsD r os = some [.int i, .int j]) (h : Q (.int (i - j))) : Bo m .sub r os Q := ⟨_, _, e1, rfl, h⟩
theorem bo_leI {os : List Op} {i j : Int} {Q : D → Prop} (e1 : opsD r os = some [.int i, .int j]) (h : Q (.bl (decide (i ≤ j)))) : Bo m .le r os Q := ⟨_, _, e1, rfl, h⟩
theorem bo_geI {os : List Op} {i j : Int} {Q : D → Prop} (e1 : opsD r os = some [.int i, .int j]) (h : Q (.bl (decide (j ≤ i)))) : Bo m .ge r os Q := ⟨_, _, e1, rfl, h⟩
theorem bo_ltI {os : List Op} {i j : Int} {Q : D → Prop} (e1 : opsD r os = some [.int i, .int j]) (h : Q (.bl (decide (i < j)))) : Bo m .lt r os Q := ⟨_, _, e1, rfl, h⟩
theorem bo_gtI {os : List Op} {i j : Int} {Q : D → Prop} (e1 : opsD r os = some [.int i, .int j]) (h : Q (.bl (decide (j < i)))) : Bo m .gt r os Q := ⟨_, _, e1, rfl, h⟩
theorem bo_intI {os : List Op} {i : Int} {Q : D → Prop} (e1 : opsD r os = some [.int i]) (h : Q (.int i)) : Bo m .int r os Q := ⟨_, _, e1, rfl, h⟩
theorem bo_intB {os : List Op} {b : Bool} {Q : D → Prop} (e1 : opsD r os = some [.bl b]) (h : Q (.int (if b then 1 else 0))) : Bo m .int r os Q := ⟨_, _, e1, rfl, h⟩
theorem bo_min2 {os : List Op} {i j : Int} {Q : D → Prop} (e1 : opsD r os = some [.int i, .int j]) (h : Q (.int (if j < i then j else i))) : Bo m .min2 r os Q := ⟨_, _, e1, rfl, h⟩
theorem bo_max2 {os : List Op} {i j : Int} {Q : D → Prop} (e1 : opsD r os = some [.int i, .int j]) (h : Q (.int (if j > i then j else i))) : Bo m .max2 r os Q := ⟨_, _, e1, rfl, h⟩
theorem bo_absI {os : List Op} {i : Int} {Q : D → Prop} (e1 : opsD r os = some [.int i]) (h : Q (.int (if i < 0 then -i else i))) : Bo m .abs r os Q := ⟨_, _, e1, rfl, h⟩
theorem bo_negI {os : List Op} {i : Int} {Q : D → Prop} (e1 : opsD r os = some [.int i]) (h : Q (.int (-i))) : Bo m .neg r os Q := ⟨_, _, e1, rfl, h⟩
/-- an index into a row -/
theorem bo_idx {os : List Op} {x : D} {i : Int} {xs : List D} {d : D} {Q : D → Prop} (e1 : opsD r os = some [x, .int i]) (e2 : seqOf m x = some xs) (hi : small62 i = true) (e3 : atI xs i = some d) (h : Q d) : Bo m .idx r os Q := by
  refine ⟨_, d, e1, ?_, h⟩
  show b_idx m [x, .int i] = some d
  cases x <;> first | (cases e2; done) | skip
  all_goals
    unfold b_idx
    simp only [e2, hi, e3, bind, Option.bind, if_true]
theorem bo_len {os : List Op} {x : D} {xs : List D} {Q : D → Prop} (e1 : opsD r os = some [x]) (e2 : seqOf m x = some xs) (h : Q (.int xs.length)) : Bo m .len r os Q := by
  refine ⟨_, .int xs.length, e1, ?_, h⟩
  show b_len m [x] = some _
  cases x <;> first | (cases e2; done) | skip
  all_goals
    unfold b_len
    simp only [e2, bind, Option.bind]
theorem bo_eq {os : List Op} {x y x' y' : D} {b : Bool} {Q : D → Prop} (e1 : opsD r os = some [x, y]) (e2 : deref m x = some x') (e3 : deref m y = some y') (e4 : eqD x' y' = some b) (h : Q (.bl b)) : Bo m .eq r os Q := by
  refine ⟨_, .bl b, e1, ?_, h⟩
  show (Option.bind _ _) = _
  rw [e2]
  show (Option.bind _ _) = _
  rw [e3]
  show (eqD x' y').map D.bl = _
  rw [e4]
  rfl
theorem bo_ne {os : List Op} {x y x' y' : D} {b : Bool} {Q : D → Prop} (e1 : opsD r os = some [x, y]) (e2 : deref m x = some x') (e3 : deref m y = some y') (e4 : eqD x' y' = some b) (h : Q (.bl (!b))) : Bo m .ne r os Q := by
  refine ⟨_, .bl (!b), e1, ?_, h⟩
  show (Option.bind _ _) = _
  rw [e2]
  show (Option.bind _ _) = _
  rw [e3]
  show (eqD x' y').map (fun b => D.bl (!b)) = _
  rw [e4]
  rfl
theorem bo_lt {os : List Op} {x y : D} {b : Bool} {Q : D → Prop} (e1 : opsD r os = some [x, y]) (e2 : ltD x y = some b) (h : Q (.bl b)) : Bo m .lt r os Q :=
  ⟨_, .bl b, e1, by show (ltD x y).map D.bl = _; rw [e2]; rfl, h⟩
theorem bo_gt {os : List Op} {x y : D} {b : Bool} {Q : D → Prop} (e1 : opsD r os = some [x, y]) (e2 : ltD y x = some b) (h : Q (.bl b)) : Bo m .gt r os Q :=
  ⟨_, .bl b, e1, by show (ltD y x).map D.bl = _; rw [e2]; rfl, h⟩
theorem bo_isin {os : List Op} {x y : D} {ys : List D} {b : Bool} {Q : D → Prop} (e1 : opsD r os = some [x, y]) (e2 : seqOf m y = some ys) (e3 : hasD x ys = some b) (h : Q (.bl b)) : Bo m .isin r os Q := by
  refine ⟨_, .bl b, e1, ?_, h⟩
  have z : (Option.bind (seqOf m y) fun ys => (hasD x ys).map D.bl) = some (.bl b) := by rw [e2]; show (hasD x ys).map D.bl = _; rw [e3]; rfl
  show b_isin m [x, y] = _
  cases x <;> first | exact z | skip
  cases y <;> first | exact z | (cases e2; done)
theorem bo_notin {os : List Op} {x y : D} {ys : List D} {b : Bool} {Q : D → Prop} (e1 : opsD r os = some [x, y]) (e2 : seqOf m y = some ys) (e3 : hasD x ys = some b) (h : Q (.bl (!b))) : Bo m .notin r os Q := by
  refine ⟨_, .bl (!b), e1, ?_, h⟩
  show (Option.bind _ _) = _
  rw [e2]
  show (hasD x ys).map (fun b => D.bl (!b)) = _
  rw [e3]
  rfl
theorem bo_letter {os : List Op} {x y : Str} {Q : D → Prop} (e1 : opsD r os = some [.str x, .str y]) (hl : letter x = true) (h : Q (.bl (strHas y x))) : Bo m .isin r os Q := ⟨_, _, e1, if_pos hl, h⟩
theorem bo_lset {os : List Op} {x : D} {xs : List D} {Q : D → Prop} (e1 : opsD r os = some [x]) (e2 : seqOf m x = some xs) (ok : setOk xs = true) (h : Q (.int (dedup xs).length)) : Bo m .lset r os Q := by
  refine ⟨_, _, e1, ?_, h⟩
  show (Option.bind _ _) = _
  rw [e2]
  exact if_pos ok
theorem bo_list {os : List Op} {x : D} {xs : List D} {Q : D → Prop} (e1 : opsD r os = some [x]) (e2 : seqOf m x = some xs) (h : Q (.lst xs)) : Bo m .list r os Q := by
  refine ⟨_, _, e1, ?_, h⟩
  show (Option.bind _ _) = _
  rw [e2]
  rfl
theorem bo_tuple {os : List Op} {x : D} {xs : List D} {Q : D → Prop} (e1 : opsD r os = some [x]) (e2 : seqOf m x = some xs) (h : Q (.tup xs)) : Bo m .tuple r os Q := by
  refine ⟨_, _, e1, ?_, h⟩
  show (Option.bind _ _) = _
  rw [e2]
  rfl
theorem bo_sort {os : List Op} {x : D} {xs ys : List D} {Q : D → Prop} (e1 : opsD r os = some [x]) (e2 : lstOf m x = some xs) (e3 : sortD xs = some ys) (h : Q (.lst ys)) : Bo m .sort r os Q := by
  refine ⟨_, _, e1, ?_, h⟩
  show (Option.bind _ _) = _
  rw [e2]
  show (sortD xs).map D.lst = _
  rw [e3]
  rfl
theorem bo_all {os : List Op} {x : D} {xs : List D} {b : Bool} {Q : D → Prop} (e1 : opsD r os = some [x]) (e2 : lstOf m x = some xs) (e3 : allB xs = some b) (h : Q (.bl b)) : Bo m .all r os Q := by
  refine ⟨_, _, e1, ?_, h⟩
  show (Option.bind _ _) = _
  rw [e2]
  show (allB xs).map D.bl = _
  rw [e3]
  rfl
theorem bo_addL {os : List Op} {xs ys : List D} {Q : D → Prop} (e1 : opsD r os = some [.lst xs, .lst ys]) (hl : xs.length + ys.length ≤ 1000000) (h : Q (.lst (xs ++ ys))) : Bo m .add r os Q := ⟨_, _, e1, if_pos hl, h⟩
theorem bo_rev {os : List Op} {x : D} {xs : List D} {Q : D → Prop} (e1 : opsD r os = some [x]) (e2 : lstOf m x = some xs) (h : Q (.lst xs.reverse)) : Bo m .rev r os Q := by
  refine ⟨_, _, e1, ?_, h⟩
  show (Option.bind _ _) = _
  rw [e2]
  rfl
theorem run_s11 {a : A} {e f : E} {Q : D → List Sl → List D → Prop} (h : Run (evA C ini a r m) fun o r m => Run (evE C ini e r m) fun x r m => Run (evE C ini f r m) fun y r m => ∃ n k d, x = .int n ∧ y = .int k ∧ (opD r o).bind (sliceOf m (some n) (some k)) = some d ∧ Q d r m) : Run (evE C ini (.s11 a e f) r m) Q := by
  rw [evE]
  refine run_bind ?_
  obtain ⟨o, r1, m1, e0, x, r2, m2, e2, y, r3, m3, e3, n, k, d, rfl, rfl, e1, h⟩ := h
  exact ⟨o, r1, m1, e0, run_bind ⟨_, r2, m2, e2, run_bind ⟨_, r3, m3, e3, run_lift e1 h⟩⟩⟩
theorem run_fld {i : Nat} {f : Str} {e : E} {Q : F → List Sl → List D → Prop} (h : Run (evE C ini e r m) fun d r m => ∃ n c ns vs, slotV r i = some (.loc n) ∧ m[n]? = some (.ins c ns vs) ∧ ¬ (f ∈ ns ∨ 900 < ns.length) ∧ Q .nx r (m.set n (.ins c (ns ++ [f]) (vs ++ [d])))) : Run (evS C ini W (.fld i f e) r m) Q := by
  rw [evS]
  refine run_bind ?_
  obtain ⟨d, r1, m1, e1, n, c, ns, vs, e2, e3, no, h⟩ := h
  refine ⟨d, r1, m1, e1, ?_⟩
  dsimp only
  rw [e2]
  dsimp only
  rw [e3]
  dsimp only
  rw [if_neg no]
  exact run_ok h
theorem run_retN {Q : F → List Sl → List D → Prop} (h : Q (.rt .non) r m) : Run (evS C ini W .retN r m) Q := by rw [evS]; exact run_ok h
theorem run_pass {Q : F → List Sl → List D → Prop} (h : Q .nx r m) : Run (evS C ini W .pass r m) Q := by rw [evS]; exact run_ok h
theorem run_ex {e : E} {Q : F → List Sl → List D → Prop} (h : Run (evE C ini e r m) fun _ r m => Q .nx r m) : Run (evS C ini W (.ex e) r m) Q := by
  rw [evS]
  refine run_bind ?_
  obtain ⟨d, r1, m1, e1, h⟩ := h
  exact ⟨d, r1, m1, e1, run_ok h⟩
theorem run_aug {i : Nat} {f : Bi} {e : E} {x : Int} {Q : F → List Sl → List D → Prop} (e0 : slotV r i = some (.int x)) (h : Run (evE C ini e r m) fun d r m => ∃ j z, d = .int j ∧ biEval m f [.int x, .int j] = some z ∧ i < r.length ∧ Q .nx (r.set i (.v z)) m) : Run (evS C ini W (.aug i f e) r m) Q := by
  rw [evS, e0]
  refine run_bind ?_
  obtain ⟨d, r1, m1, e1, j, z, rfl, e2, hl, h⟩ := h
  refine ⟨_, r1, m1, e1, ?_⟩
  dsimp only
  rw [e2]
  unfold Mi.setV
  dsimp only
  rw [if_pos hl]
  exact run_ok h
theorem run_zip {a b : E} {Q : List D → List Sl → List D → Prop} (h : Run (evE C ini a r m) fun d r m => Run (evE C ini b r m) fun e r m => ∃ xs ys, seqF d = some xs ∧ seqF e = some ys ∧ Q (zipD xs ys) r m) : Run (evI C ini (.zip a b) r m) Q := by
  rw [evI]
  refine run_bind ?_
  obtain ⟨d, r1, m1, e1, e, r2, m2, e2, xs, ys, e3, e4, h⟩ := h
  exact ⟨d, r1, m1, e1, run_bind ⟨e, r2, m2, e2, run_lift (by rw [e3, e4]) h⟩⟩
theorem run_rng2 {a b : E} {Q : List D → List Sl → List D → Prop} (h : Run (evE C ini a r m) fun d r m => Run (evE C ini b r m) fun e r m => ∃ i j, d = .int i ∧ e = .int j ∧ (small62 i && small62 j) = true ∧ Q (rngD i j) r m) : Run (evI C ini (.rng2 a b) r m) Q := by
  rw [evI]
  refine run_bind ?_
  obtain ⟨d, r1, m1, e1, e, r2, m2, e2, i, j, rfl, rfl, e3, h⟩ := h
  refine ⟨_, r1, m1, e1, run_bind ⟨_, r2, m2, e2, ?_⟩⟩
  dsimp only
  rw [if_pos e3]
  exact run_ok h
end
/-- a def's call -/
theorem run_def {F : Nat → Option Fn} {ini : Str → Option Nat} {W n f : Nat} {d : Fd} {ds m : List D} {r : List Sl} {Q : D → List D → Prop} (hf : F f = some (.d d)) (hk : ∀ c, d.kd ≠ .init c) (hl : ds.length = d.ps) (hr : ds.map Sl.v ++ List.replicate (d.ns.length - d.ps) .un = r)
    (h : Run (evSs (call F ini W n) ini W d.body r m) fun k _ m' => (∃ d', k = .rt d' ∧ Q d' m') ∨ (k = .nx ∧ d.kd ≠ Kd.new ∧ Q .non m')) : RunC (call F ini W (n + 1) f ds m) Q := by
  subst hr
  rw [call_succ hf]
  exact run_fd hk hl h
/-- a class's call -/
theorem run_init {F : Nat → Option Fn} {ini : Str → Option Nat} {W n f : Nat} {d : Fd} {c : Str} {ds m : List D} {Q : D → List D → Prop} (hf : F f = some (.d d)) (hk : d.kd = .init c) (hl : ds.length + 1 = d.ps)
    (h : Run (evSs (call F ini W n) ini W d.body (.v (.loc m.length) :: (ds.map Sl.v ++ List.replicate (d.ns.length - d.ps) .un)) (m ++ [.ins c [] []])) fun k _ m' => k = .nx ∧ ∃ x, m'.drop m.length = [x] ∧ noLoc x = true ∧ noLocs (m'.take m.length) = true ∧ Q x (m'.take m.length)) : RunC (call F ini W (n + 1) f ds m) Q := by
  rw [call_succ hf]
  show RunC (runFd _ _ _ _ _ _) _
  obtain ⟨k, r', m', e, rfl, x, e1, e2, e3, q⟩ := h
  unfold runFd
  rw [hk]
  dsimp only
  rw [if_pos hl, e]
  dsimp only
  rw [e1]
  dsimp only
  rw [e2, e3]
  exact ⟨_, _, rfl, q⟩
end Mi
end
section
set_option maxRecDepth 100000
/-! Mi: plain facts: equality, order, sorting of values. -/
namespace Mi
open PySem
mutual
/-- data whose texts can be laid -/
def fine : D → Bool
  | .non => true
  | .bl _ => true
  | .int _ => true
  | .str x => x.cps.all (· < 0x110000)
  | .tup xs => fines xs
  | .lst xs => fines xs
  | .dct _ _ => false
  | .ins _ _ _ => false
  | .loc _ => false
def fines : List D → Bool
  | [] => true
  | x :: xs => fine x && fines xs
end
mutual
def ddep : D → Nat
  | .tup xs => ddeps xs + 1
  | .lst xs => ddeps xs + 1
  | _ => 0
def ddeps : List D → Nat
  | [] => 0
  | x :: xs => max (ddep x) (ddeps xs)
end
mutual
theorem fine_py : ∀ d, fine d = true → isPy d = true
  | .non, _ => rfl
  | .bl _, _ => rfl
  | .int _, _ => rfl
  | .str _, _ => rfl
  | .tup xs, h => by simp only [fine] at h; simp only [isPy]; exact fines_py xs h
  | .lst xs, h => by simp only [fine] at h; simp only [isPy]; exact fines_py xs h
  | .dct _ _, h => by simp [fine] at h
  | .ins _ _ _, h => by simp [fine] at h
  | .loc _, h => by simp [fine] at h
theorem fines_py : ∀ ds, fines ds = true → isPys ds = true
  | [], _ => rfl
  | d :: ds, h => by
    simp only [fines, Bool.and_eq_true] at h
    simp only [isPys, fine_py d h.1, fines_py ds h.2, Bool.and_self]
end
mutual
theorem fine_lay : ∀ d, fine d = true → (py d).canLay0 = true ∧ (py d).depth = ddep d
  | .non, _ => ⟨rfl, rfl⟩
  | .bl _, _ => ⟨rfl, rfl⟩
  | .int _, _ => ⟨rfl, rfl⟩
  | .str x, h => ⟨h, rfl⟩
  | .tup xs, h => by
    simp only [fine] at h
    have z := fines_lay xs h
    exact ⟨z.1, by simp only [py, PyData.depth, ddep, z.2]⟩
  | .lst xs, h => by
    simp only [fine] at h
    have z := fines_lay xs h
    exact ⟨z.1, by simp only [py, PyData.depth, ddep, z.2]⟩
  | .dct _ _, h => by simp [fine] at h
  | .ins _ _ _, h => by simp [fine] at h
  | .loc _, h => by simp [fine] at h
theorem fines_lay : ∀ ds, fines ds = true → PyData.canLayAll0 (pys ds) = true ∧ PyData.depthAll (pys ds) = ddeps ds
  | [], _ => ⟨rfl, rfl⟩
  | d :: ds, h => by
    simp only [fines, Bool.and_eq_true] at h
    have z := fine_lay d h.1
    have y := fines_lay ds h.2
    exact ⟨by simp only [pys, PyData.canLayAll0, z.1, y.1, Bool.and_self], by simp only [pys, PyData.depthAll, ddeps, z.2, y.2]⟩
end
theorem shaped_of {d : D} (h : fine d = true) (l : ddep d ≤ 64) : SeqAt.shaped (py d) = true := by
  have z := fine_lay d h
  unfold SeqAt.shaped
  rw [z.1, z.2]
  simpa using l
mutual
theorem eqv_self : ∀ d, isPy d = true → PyData.eqv (py d) (py d) = true
  | .non, _ => rfl
  | .bl _, _ => by simp [py, PyData.eqv]
  | .int _, _ => by simp [py, PyData.eqv]
  | .str _, _ => by simp [py, PyData.eqv]
  | .tup xs, h => by simp only [isPy] at h; simp only [py, PyData.eqv]; exact eqvs_self xs h
  | .lst xs, h => by simp only [isPy] at h; simp only [py, PyData.eqv]; exact eqvs_self xs h
  | .dct _ _, h => by simp [isPy] at h
  | .ins _ _ _, h => by simp [isPy] at h
  | .loc _, h => by simp [isPy] at h
theorem eqvs_self : ∀ ds, isPys ds = true → PyData.eqvAll (pys ds) (pys ds) = true
  | [], _ => rfl
  | d :: ds, h => by
    simp only [isPys, Bool.and_eq_true] at h
    simp only [pys, PyData.eqvAll, eqv_self d h.1, eqvs_self ds h.2, Bool.and_self]
end
mutual
/-- no truth, no container that is no tuple or list: == is equality -/
def plainD : D → Bool
  | .non => true
  | .int _ => true
  | .str _ => true
  | .tup xs => plainDs xs
  | .lst xs => plainDs xs
  | _ => false
def plainDs : List D → Bool
  | [] => true
  | x :: xs => plainD x && plainDs xs
end
mutual
theorem eqv_eq : ∀ a b, plainD a = true → plainD b = true → (PyData.eqv (py a) (py b) = true ↔ a = b)
  | .non, b, _, hb => by cases b <;> simp_all [py, PyData.eqv, plainD]
  | .int x, b, _, hb => by cases b <;> simp_all [py, PyData.eqv, plainD]
  | .str x, b, _, hb => by cases b <;> simp_all [py, PyData.eqv, plainD]
  | .tup xs, b, ha, hb => by
    cases b with
    | tup ys =>
      simp only [plainD] at ha hb
      simp only [py, PyData.eqv, D.tup.injEq]
      exact eqvs_eq xs ys ha hb
    | _ => simp_all [py, PyData.eqv, plainD]
  | .lst xs, b, ha, hb => by
    cases b with
    | lst ys =>
      simp only [plainD] at ha hb
      simp only [py, PyData.eqv, D.lst.injEq]
      exact eqvs_eq xs ys ha hb
    | _ => simp_all [py, PyData.eqv, plainD]
  | .bl _, _, h, _ => by simp [plainD] at h
  | .dct _ _, _, h, _ => by simp [plainD] at h
  | .ins _ _ _, _, h, _ => by simp [plainD] at h
  | .loc _, _, h, _ => by simp [plainD] at h
theorem eqvs_eq : ∀ a b, plainDs a = true → plainDs b = true → (PyData.eqvAll (pys a) (pys b) = true ↔ a = b)
  | [], [], _, _ => by simp [pys, PyData.eqvAll]
  | [], _ :: _, _, _ => by simp [pys, PyData.eqvAll]
  | _ :: _, [], _, _ => by simp [pys, PyData.eqvAll]
  | a :: as, b :: bs, ha, hb => by
    simp only [plainDs, Bool.and_eq_true] at ha hb
    simp only [pys, PyData.eqvAll, Bool.and_eq_true, List.cons.injEq, eqv_eq a b ha.1 hb.1, eqvs_eq as bs ha.2 hb.2]
end
theorem eqv_dec {a b : D} (ha : plainD a = true) (hb : plainD b = true) : PyData.eqv (py a) (py b) = decide (a = b) := by
  have z := eqv_eq a b ha hb
  by_cases c : a = b
  · rw [z.mpr c]; simp [c]
  · cases e : PyData.eqv (py a) (py b) with
    | true => exact absurd (z.mp e) c
    | false => simp [c]
/-- plain, fine, of small depth -/
structure Ok (d : D) : Prop where
  pl : plainD d = true
  fi : fine d = true
  dp : ddep d ≤ 60
theorem eqD_ok {a b : D} (ha : Ok a) (hb : Ok b) : eqD a b = some (decide (a = b)) := by
  unfold eqD
  rw [fine_py a ha.fi, fine_py b hb.fi, shaped_of ha.fi (by have := ha.dp; omega), shaped_of hb.fi (by have := hb.dp; omega), eqv_dec ha.pl hb.pl]
  rfl
theorem oks_of {ds : List D} {n : Nat} (h : ∀ d ∈ ds, Ok d ∧ ddep d ≤ n) : plainDs ds = true ∧ fines ds = true ∧ ddeps ds ≤ n := by
  induction ds with
  | nil => exact ⟨rfl, rfl, Nat.zero_le _⟩
  | cons d ds ih =>
    obtain ⟨a, b, c⟩ := ih fun x hx => h x (List.mem_cons_of_mem _ hx)
    obtain ⟨e, f⟩ := h d List.mem_cons_self
    refine ⟨by simp only [plainDs, e.pl, a, Bool.and_self], by simp only [fines, e.fi, b, Bool.and_self], ?_⟩
    simp only [ddeps]
    omega
theorem ok_str {x : Str} (h : x.cps.all (· < 0x110000) = true) : Ok (.str x) := ⟨rfl, h, Nat.zero_le _⟩
theorem ok_int (i : Int) : Ok (.int i) := ⟨rfl, rfl, Nat.zero_le _⟩
theorem ok_non : Ok .non := ⟨rfl, rfl, Nat.zero_le _⟩
theorem ok_tup {ds : List D} {n : Nat} (hn : n < 60) (h : ∀ d ∈ ds, Ok d ∧ ddep d ≤ n) : Ok (.tup ds) := by
  obtain ⟨a, b, c⟩ := oks_of h
  refine ⟨a, b, ?_⟩
  simp only [ddep]; omega
theorem ok_lst {ds : List D} {n : Nat} (hn : n < 60) (h : ∀ d ∈ ds, Ok d ∧ ddep d ≤ n) : Ok (.lst ds) := by
  obtain ⟨a, b, c⟩ := oks_of h
  refine ⟨a, b, ?_⟩
  simp only [ddep]; omega
theorem ddep_tup {ds : List D} {n : Nat} (h : ∀ d ∈ ds, Ok d ∧ ddep d ≤ n) : ddep (.tup ds) ≤ n + 1 := by
  obtain ⟨_, _, c⟩ := oks_of h
  simp only [ddep]; omega
theorem any_eqv {x : D} (hx : Ok x) : ∀ {ys : List D}, (∀ y ∈ ys, Ok y) → ((pys ys).any fun y => PyData.eqv y (py x)) = decide (x ∈ ys)
  | [], _ => rfl
  | y :: ys, h => by
    rw [pys, List.any_cons, any_eqv hx fun z hz => h z (List.mem_cons_of_mem _ hz), eqv_dec (h y List.mem_cons_self).pl hx.pl]
    by_cases c : x = y
    · subst c; simp
    · have c' : ¬ y = x := fun e => c e.symm
      simp [c, c']
theorem hasD_ok {x : D} {ys : List D} (hx : Ok x) (hy : ∀ y ∈ ys, Ok y) : hasD x ys = some (decide (x ∈ ys)) := by
  obtain ⟨a, b, c⟩ := oks_of (n := 60) fun y h => ⟨hy y h, (hy y h).dp⟩
  have z := fines_lay ys b
  unfold hasD
  have s1 : SeqAt.shaped (.list (pys ys)) = true := shaped_of (d := .lst ys) b (by simp only [ddep]; omega)
  have s2 : SeqAt.shaped (.tuple (pys ys)) = true := shaped_of (d := .tup ys) b (by simp only [ddep]; omega)
  rw [fine_py x hx.fi, fines_py ys b, shaped_of hx.fi (by have := hx.dp; omega), s1, s2, any_eqv hx hy]
  rfl

/-! ### the order -/
mutual
/-- of the same shape: texts, ints, tuples of such -/
def same : D → D → Bool
  | .str _, .str _ => true
  | .int _, .int _ => true
  | .tup xs, .tup ys => sames xs ys
  | _, _ => false
def sames : List D → List D → Bool
  | [], [] => true
  | x :: xs, y :: ys => same x y && sames xs ys
  | _, _ => false
end
mutual
theorem same_alike : ∀ a b, same a b = true → W.alike (py a) (py b) = true ∧ plainD a = true ∧ plainD b = true
  | .str _, b, h => by cases b <;> simp_all [same, py, W.alike, plainD]
  | .int _, b, h => by cases b <;> simp_all [same, py, W.alike, plainD]
  | .tup xs, b, h => by
    cases b with
    | tup ys =>
      simp only [same] at h
      simp only [py, W.alike, plainD]
      exact sames_alike xs ys h
    | _ => simp [same] at h
  | .non, _, h => by simp [same] at h
  | .bl _, _, h => by simp [same] at h
  | .lst _, _, h => by simp [same] at h
  | .dct _ _, _, h => by simp [same] at h
  | .ins _ _ _, _, h => by simp [same] at h
  | .loc _, _, h => by simp [same] at h
theorem sames_alike : ∀ a b, sames a b = true → W.alikeAll (pys a) (pys b) = true ∧ plainDs a = true ∧ plainDs b = true
  | [], [], _ => ⟨rfl, rfl, rfl⟩
  | [], _ :: _, h => by simp [sames] at h
  | _ :: _, [], h => by simp [sames] at h
  | a :: as, b :: bs, h => by
    simp only [sames, Bool.and_eq_true] at h
    obtain ⟨x, y, z⟩ := same_alike a b h.1
    obtain ⟨u, v, w⟩ := sames_alike as bs h.2
    exact ⟨by simp only [pys, W.alikeAll, x, u, Bool.and_self], by simp only [plainDs, y, v, Bool.and_self], by simp only [plainDs, z, w, Bool.and_self]⟩
end
mutual
theorem same_trans : ∀ a b c, same a b = true → same a c = true → same b c = true
  | .str _, b, c, h, k => by cases b <;> cases c <;> simp_all [same]
  | .int _, b, c, h, k => by cases b <;> cases c <;> simp_all [same]
  | .tup xs, b, c, h, k => by
    cases b with
    | tup ys =>
      cases c with
      | tup zs =>
        simp only [same] at h k ⊢
        exact sames_trans xs ys zs h k
      | _ => simp [same] at k
    | _ => simp [same] at h
  | .non, _, _, h, _ => by simp [same] at h
  | .bl _, _, _, h, _ => by simp [same] at h
  | .lst _, _, _, h, _ => by simp [same] at h
  | .dct _ _, _, _, h, _ => by simp [same] at h
  | .ins _ _ _, _, _, h, _ => by simp [same] at h
  | .loc _, _, _, h, _ => by simp [same] at h
theorem sames_trans : ∀ a b c, sames a b = true → sames a c = true → sames b c = true
  | [], [], [], _, _ => rfl
  | [], _ :: _, _, h, _ => by simp [sames] at h
  | [], [], _ :: _, _, k => by simp [sames] at k
  | _ :: _, [], _, h, _ => by simp [sames] at h
  | _ :: _, _ :: _, [], _, k => by simp [sames] at k
  | a :: as, b :: bs, c :: cs, h, k => by
    simp only [sames, Bool.and_eq_true] at h k ⊢
    exact ⟨same_trans a b c h.1 k.1, sames_trans as bs cs h.2 k.2⟩
end
def ltd (a b : D) : Bool := W.dataLt (py a) (py b)
theorem ltd_self (a : D) : ltd a a = false := PyProof.Rows.lex_irrefl _
theorem ltd_trans {a b c : D} (h : ltd a b = true) (k : ltd b c = true) : ltd a c = true := PyProof.Rows.lex_trans _ _ _ h k
theorem ltd_total {a b : D} (s : same a b = true) (h : ltd a b = false) (k : ltd b a = false) : a = b := by
  obtain ⟨al, pa, pb⟩ := same_alike a b s
  have e : W.keyToks (py a) = W.keyToks (py b) := PyProof.Rows.lex_total _ _ h k
  by_cases c : PyData.eqv (py a) (py b) = true
  · exact (eqv_eq a b pa pb).mp c
  · have z := (W.toks_eqv (py a) (py b) al).2 (by simpa using c) [.inl 0] [.inl 1]
    rw [e, W.lex_pre] at z
    have y : PyProof.Rows.lexLt PyProof.Rows.itemOrd (W.keyToks (py b)) (W.keyToks (py b)) = false := PyProof.Rows.lex_irrefl _
    rw [y] at z
    exact absurd z (by decide)
theorem ltd_asymm {a b : D} (h : ltd a b = true) : ltd b a = false := by
  cases e : ltd b a with
  | false => rfl
  | true => have z := ltd_trans h e; rw [ltd_self] at z; cases z
theorem ltd_neg {a b c : D} (h : ltd a c = true) : ltd a b = true ∨ ltd b c = true := PyProof.Rows.lex_negTrans _ _ _ h
theorem ltd_int (i j : Int) : ltd (.int i) (.int j) = decide (i < j) := W.dataLt_int i j
theorem ltd_str (x y : Str) : ltd (.str x) (.str y) = decide (x.cps.toList < y.cps.toList) := W.dataLt_str x y
/-- < -/
theorem ltD_ok {a b : D} (s : same a b = true) (ha : Ok a) (hb : Ok b) : ltD a b = some (ltd a b) := by
  have gen : ∀ a b, same a b = true → Ok a → Ok b → isNon a = false → (if isPy a && isPy b && W.alike (py a) (py b) && SeqAt.shaped (py a) && SeqAt.shaped (py b) && !isNon a then some (W.dataLt (py a) (py b)) else none) = some (ltd a b) := fun a b s ha hb hn => by
    rw [fine_py a ha.fi, fine_py b hb.fi, shaped_of ha.fi (by have := ha.dp; omega), shaped_of hb.fi (by have := hb.dp; omega), (same_alike a b s).1, hn]
    rfl
  cases a with
  | int i =>
    cases b with
    | int j => show some _ = _; rw [ltd_int]
    | _ => simp [same] at s
  | str x => exact gen _ _ s ha hb rfl
  | tup xs => exact gen _ _ s ha hb rfl
  | _ => simp [same] at s

/-! ### sorting -/
def srt (xs : List D) : List D := xs.mergeSort leD
theorem leD_eq (a b : D) : leD a b = !ltd b a := by
  unfold leD
  rw [W.dataLe_eq]
  rfl
theorem srt_perm (xs : List D) : (srt xs).Perm xs := List.mergeSort_perm _ _
theorem srt_mem {xs : List D} {x : D} : x ∈ srt xs ↔ x ∈ xs := (srt_perm xs).mem_iff
theorem srt_pair (xs : List D) : (srt xs).Pairwise fun a b => ltd b a = false := by
  have z := List.pairwise_mergeSort (le := leD) (fun a b c h k => by
    rw [leD_eq] at *
    cases e : ltd c a with
    | false => rfl
    | true =>
      rcases ltd_neg (b := b) e with q | q
      · rw [q] at k; exact k
      · rw [q] at h; exact h) (fun a b => by
    rw [leD_eq, leD_eq]
    cases e : ltd b a with
    | false => rfl
    | true => rw [ltd_asymm e]; rfl) xs
  refine z.imp fun h => ?_
  rw [leD_eq] at h
  simpa using h
/-- all of the shape t -/
def AllOf (t : D) (xs : List D) : Prop := ∀ x ∈ xs, same t x = true
theorem AllOf.two {t : D} {xs : List D} (h : AllOf t xs) {a b : D} (ha : a ∈ xs) (hb : b ∈ xs) : same a b = true := same_trans t a b (h a ha) (h b hb)
theorem srt_strict {t : D} {xs : List D} (h : AllOf t xs) (nd : xs.Nodup) : (srt xs).Pairwise fun a b => ltd a b = true := by
  have n2 : (srt xs).Nodup := (srt_perm xs).nodup_iff.mpr nd
  have z := (srt_pair xs).and n2
  refine List.Pairwise.imp_of_mem (fun {a b} ha hb q => ?_) z
  cases e : ltd a b with
  | true => rfl
  | false => exact absurd (ltd_total (h.two (srt_mem.mp ha) (srt_mem.mp hb)) e q.1) q.2
theorem srt_eq {t : D} {xs ys : List D} (h : AllOf t xs) (p : xs.Perm ys) : srt xs = srt ys := by
  refine List.Perm.eq_of_pairwise (fun a b ha hb h1 h2 => ?_) (srt_pair xs) (srt_pair ys) ((srt_perm xs).trans (p.trans (srt_perm ys).symm))
  exact ltd_total (h.two (srt_mem.mp ha) (p.mem_iff.mpr (srt_mem.mp hb))) h2 h1
theorem sortD_ok {t : D} {xs : List D} (ht : t ≠ .tup []) (h : AllOf t xs) (ok : ∀ x ∈ xs, Ok x) (hl : xs.length ≤ 1000000) : sortD xs = some (srt xs) := by
  unfold sortD
  refine if_pos ?_
  obtain ⟨_, b, _⟩ := oks_of (n := 60) fun y h => ⟨ok y h, (ok y h).dp⟩
  unfold sortable
  simp only [Bool.and_eq_true, fines_py xs b, decide_eq_true_eq, hl, true_and, List.all_eq_true, Bool.or_eq_true, and_true]
  refine ⟨⟨fun x hx y hy => (same_alike x y (h.two hx hy)).1, ?_⟩, fun x hx => shaped_of (ok x hx).fi (by have := (ok x hx).dp; omega)⟩
  cases t with
  | str _ => exact .inr fun x hx => by have z := h x hx; cases x <;> simp [same] at z ⊢
  | int _ => exact .inr fun x hx => by have z := h x hx; cases x <;> simp [same] at z ⊢
  | tup ts =>
    refine .inl fun x hx => ?_
    have z := h x hx
    cases ts with
    | nil => exact absurd rfl ht
    | cons t ts => cases x <;> simp [same] at z ⊢; rename_i ys; cases ys <;> simp [sames] at z ⊢
  | _ =>
    refine .inr fun x hx => ?_
    have z := h x hx
    simp [same] at z
end Mi
end
section
set_option maxRecDepth 100000
/-! Mi: running: comprehensions; a source of choices. -/
namespace Mi
open PySem
section
variable {C : Nat → List D → List D → CO} {ini : Str → Option Nat} {W : Nat} {r : List Sl} {m : List D}
/-! to see the form -/
theorem is_E (e : E) {Q : D → List Sl → List D → Prop} (h : Run (evE C ini e r m) Q) : Run (evE C ini e r m) Q := h
theorem is_A (e : A) {Q : Op → List Sl → List D → Prop} (h : Run (evA C ini e r m) Q) : Run (evA C ini e r m) Q := h
theorem is_S (s : S) {ss : List S} {Q : F → List Sl → List D → Prop} (h : Run (evSs C ini W (s :: ss) r m) Q) : Run (evSs C ini W (s :: ss) r m) Q := h
theorem is_Bo (f : Bi) {os : List Op} {Q : D → Prop} (h : Bo m f r os Q) : Bo m f r os Q := h
theorem r_att {a : A} {f : Str} {Q : D → List Sl → List D → Prop} (h : Run (evA C ini a r m) fun o r m => ∃ c ns vs d, (opD r o).bind (deref m) = some (.ins c ns vs) ∧ (ns.zip vs).lookup f = some d ∧ Q d r m) : Run (evE C ini (.att a f) r m) Q :=
  run_att (c := f) (ns := []) (vs := []) h
theorem run_snx {s : S} {ss : List S} {Q : F → List Sl → List D → Prop} (h : Run (evS C ini W s r m) fun k r m => k = .nx ∧ Run (evSs C ini W ss r m) Q) : Run (evSs C ini W (s :: ss) r m) Q :=
  run_scons (h.imp fun k r m h => .inl h)
theorem isCont_l {xs : List D} : isCont (.lst xs) = true := rfl
/-- a loop without return -/
theorem run_loopN {t : T} {f : List Sl → List D → O F} {xs : List D} {Q : F → List Sl → List D → Prop} (I : Nat → List Sl → List D → Prop) (h0 : I 0 r m)
    (step : ∀ k x r m, xs[k]? = some x → I k r m → ∃ r', assignT t x r = some r' ∧ Run (f r' m) fun k' r m => k' = .nx ∧ I (k + 1) r m) (hend : ∀ r m, I xs.length r m → Q .nx r m) : Run (loopF t f xs r m) Q :=
  run_loop I h0 (fun k x r m e i => by
    obtain ⟨r', e1, h⟩ := step k x r m e i
    exact ⟨r', e1, h.imp fun _ _ _ z => .inl z⟩) hend
/-- a comprehension that changes no store -/
theorem r_lc {ow : List Nat} {e : E} {t : T} {i : I} {cs : List E} {Q : D → List Sl → List D → Prop} (h : Run (evI C ini i r m) fun xs r m => noOwn r ow = true ∧ xs.length ≤ 1000000 ∧ ∃ g : D → Option D,
    (∀ x ∈ xs, ∃ r', assignT t x (Mi.wipe r ow) = some r' ∧ Run (lcF C ini e cs r' m) fun a r2 m2 => a = g x ∧ r2 = r' ∧ m2 = m) ∧ Q (.lst (xs.filterMap g)) r m) : Run (evE C ini (.lc ow e t i cs) r m) Q := by
  refine run_lc (h.imp fun xs r m ⟨h1, h2, g, h3, q⟩ => ⟨h1, decide_eq_true h2, xs.filterMap g, _, m, turns_look fun x hx => ?_, q⟩)
  obtain ⟨r', e1, a, r2, m2, e2, rfl, rfl, rfl⟩ := h3 x hx
  exact ⟨r2, e1, e2⟩
/-- .. that changes the store -/
theorem turns_inv {r0 : List Sl} {t : T} {f : List Sl → List D → O (Option D)} : ∀ (xs : List D) (J : Nat → List D → List D → Prop) (ys : List D) (m : List D), J 0 ys m →
    (∀ k x ys m, xs[k]? = some x → J k ys m → ∃ r', assignT t x r0 = some r' ∧ Run (f r' m) fun a r2 m' => r2 = r' ∧ J (k + 1) (ys ++ a.toList) m') → ∃ zs m', turns r0 t f xs m = .ok zs r0 m' ∧ J xs.length (ys ++ zs) m'
  | [], J, ys, m, h, _ => ⟨[], m, rfl, by simpa using h⟩
  | x :: xs, J, ys, m, h, st => by
    obtain ⟨r', e1, a, r2, m', e2, rfl, h'⟩ := st 0 x ys m rfl h
    obtain ⟨zs, m2, e3, h2⟩ := turns_inv xs (fun k => J (k + 1)) _ m' h' fun k y ys m e => st (k + 1) y ys m (by simpa using e)
    refine ⟨a.toList ++ zs, m2, ?_, by simpa using h2⟩
    rw [turns, e1]
    dsimp only
    rw [e2]
    dsimp only
    rw [if_pos rfl, e3]
    cases a <;> rfl
theorem r_lcJ {ow : List Nat} {e : E} {t : T} {i : I} {cs : List E} {Q : D → List Sl → List D → Prop} (h : Run (evI C ini i r m) fun xs r m => noOwn r ow = true ∧ xs.length ≤ 1000000 ∧ ∃ J : Nat → List D → List D → Prop, J 0 [] m ∧
    (∀ k x ys m, xs[k]? = some x → J k ys m → ∃ r', assignT t x (Mi.wipe r ow) = some r' ∧ Run (lcF C ini e cs r' m) fun a r2 m2 => r2 = r' ∧ J (k + 1) (ys ++ a.toList) m2) ∧ ∀ ys m', J xs.length ys m' → Q (.lst ys) r m') : Run (evE C ini (.lc ow e t i cs) r m) Q := by
  refine run_lc (h.imp fun xs r m ⟨h1, h2, J, j0, h3, q⟩ => ?_)
  obtain ⟨zs, m', e, j⟩ := turns_inv xs J [] m j0 h3
  exact ⟨h1, decide_eq_true h2, zs, _, m', e, q zs m' (by simpa using j)⟩
end
theorem allB_map {α : Type} (f : α → Bool) : ∀ xs : List α, allB (xs.map fun x => .bl (f x)) = some (xs.all f)
  | [] => rfl
  | x :: xs => by
    show (allB (xs.map fun x => .bl (f x))).map (f x && ·) = _
    rw [allB_map f xs]
    rfl
theorem allB_fm {f : D → Bool} {xs : List D} : allB (xs.filterMap fun x => some (.bl (f x))) = some (xs.all f) := by
  have e : (xs.filterMap fun x => some (D.bl (f x))) = xs.map fun x => .bl (f x) := by
    induction xs with
    | nil => rfl
    | cons x xs ih => simp only [List.filterMap_cons, List.map_cons, ih]
  rw [e]
  exact allB_map f xs
/-- a source of choices -/
def Src (m : List D) (s : Nat) : Prop := ∃ a b c : Int, 0 ≤ a ∧ 0 ≤ b ∧ 0 ≤ c ∧ m[s]? = some (.lst [.int a, .int b, .int c])
/-- only the source has changed -/
structure Up (m m' : List D) (s : Nat) : Prop where
  src : Src m' s
  len : m'.length = m.length
  off : ∀ k, k ≠ s → m'[k]? = m[k]?
theorem Up.set {m : List D} {s : Nat} {a b c : Int} (h : Src m s) (ha : 0 ≤ a) (hb : 0 ≤ b) (hc : 0 ≤ c) : Up m (m.set s (.lst [.int a, .int b, .int c])) s := by
  obtain ⟨_, _, _, _, _, _, e⟩ := h
  have hl := (List.getElem?_eq_some_iff.mp e).1
  exact ⟨⟨a, b, c, ha, hb, hc, by simp [hl]⟩, by simp, fun k hk => by rw [List.getElem?_set_ne (Ne.symm hk)]⟩
theorem Up.refl {m : List D} {s : Nat} (h : Src m s) : Up m m s := ⟨h, rfl, fun _ _ => rfl⟩
theorem Up.trans {m m' m2 : List D} {s : Nat} (h : Up m m' s) (k : Up m' m2 s) : Up m m2 s := ⟨k.src, k.len.trans h.len, fun j hj => (k.off j hj).trans (h.off j hj)⟩
theorem seq_loc {m : List D} {s : Nat} {xs : List D} (e : m[s]? = some (.lst xs)) : seqOf m (.loc s) = some xs := by
  show (match m[s]? with | some (.lst xs) => some xs | _ => none) = _
  rw [e]
theorem fm {i j : Int} (h : 0 < j) : 0 ≤ i.fmod j ∧ i.fmod j < j := ⟨Int.fmod_nonneg_of_pos i h, Int.fmod_lt_of_pos i h⟩
theorem fm64 {i j : Int} (h : 0 < j) (k : j < 2 ^ 64) : (i.fmod j).natAbs < 2 ^ 64 := by
  have z := fm (i := i) h
  omega
/-- a row's value: a tuple or a list -/
inductive Row : D → List D → Prop where
  | t (xs : List D) : Row (.tup xs) xs
  | l (xs : List D) : Row (.lst xs) xs
theorem Row.seq {d : D} {xs : List D} (h : Row d xs) {m : List D} : seqOf m d = some xs := by cases h <;> rfl
theorem atI_nat {xs : List D} {i : Int} (h0 : 0 ≤ i) {d : D} (h : xs[i.toNat]? = some d) : atI xs i = some d := by
  unfold atI
  rw [if_pos h0, h]
theorem slice_to {xs : List D} {i : Int} (h : 0 ≤ i) : slice xs none (some i) = xs.take i.toNat := by
  show ((xs.take (if i < 0 then (i + xs.length).toNat else min i.toNat xs.length)).drop 0) = _
  rw [if_neg (by omega), List.drop_zero]
  rcases Nat.le_total i.toNat xs.length with c | c
  · rw [Nat.min_eq_left c]
  · rw [Nat.min_eq_right c, List.take_length, List.take_of_length_le c]
theorem slice_from {xs : List D} {i : Int} (h : 0 ≤ i) : slice xs (some i) none = xs.drop i.toNat := by
  show ((xs.take xs.length).drop (if i < 0 then (i + xs.length).toNat else min i.toNat xs.length)) = _
  rw [if_neg (by omega), List.take_length]
  rcases Nat.le_total i.toNat xs.length with c | c
  · rw [Nat.min_eq_left c]
  · rw [Nat.min_eq_right c, List.drop_length, List.drop_of_length_le c]
theorem slice_all {xs : List D} : slice xs none none = xs := by
  show ((xs.take xs.length).drop 0) = _
  rw [List.take_length, List.drop_zero]
theorem slice_l {m : List D} {xs : List D} {a b : Option Int} : sliceOf m a b (.lst xs) = some (.lst (slice xs a b)) := rfl
theorem slice_t {m : List D} {xs : List D} {a b : Option Int} : sliceOf m a b (.tup xs) = some (.tup (slice xs a b)) := rfl
theorem take_out {α : Type} : ∀ {l : List α} {i : Nat} (h : i < l.length), (l[i] :: l.eraseIdx i).Perm l
  | [], i, h => absurd h (Nat.not_lt_zero _)
  | x :: l, 0, h => List.Perm.refl _
  | x :: l, i + 1, h => by
    have ih := take_out (l := l) (i := i) (Nat.lt_of_succ_lt_succ h)
    exact (List.Perm.swap _ _ _).trans (ih.cons x)
/-- a slot that holds no object of its own -/
def nO (x : Sl) : Prop := ∀ e, x ≠ .o e
theorem nO_v (d : D) : nO (.v d) := fun _ h => nomatch h
theorem nO_un : nO .un := fun _ h => nomatch h
theorem asg {r : List Sl} {i : Nat} {x : Sl} {d : D} (e : r[i]? = some x) (h : nO x) : assignT (.s i) d r = some (r.set i (.v d)) := by
  rw [assignT, e]
  cases x with
  | o y => exact absurd rfl (h y)
  | _ => rfl
theorem asg2 {r : List Sl} {i j : Nat} {x y : Sl} {d e : D} (ei : r[i]? = some x) (h : nO x) (ej : (r.set i (.v d))[j]? = some y) (k : nO y) : assignT (.t [.s i, .s j]) (.tup [d, e]) r = some ((r.set i (.v d)).set j (.v e)) := by
  rw [assignT, assignTs, asg ei h]
  show assignTs [.s j] [e] _ = _
  rw [assignTs, asg ej k]
  rfl
theorem sl_to {r : List Sl} {m : List D} {o : Op} {xs : List D} {i : Int} (e : opD r o = some (.lst xs)) (h : 0 ≤ i) : (opD r o).bind (sliceOf m none (some i)) = some (.lst (xs.take i.toNat)) := by
  rw [e]
  show sliceOf m none (some i) (.lst xs) = _
  rw [slice_l, slice_to h]
theorem sl_from {r : List Sl} {m : List D} {o : Op} {xs : List D} {i : Int} (e : opD r o = some (.lst xs)) (h : 0 ≤ i) : (opD r o).bind (sliceOf m (some i) none) = some (.lst (xs.drop i.toNat)) := by
  rw [e]
  show sliceOf m (some i) none (.lst xs) = _
  rw [slice_l, slice_from h]
theorem sl_toT {r : List Sl} {m : List D} {o : Op} {xs : List D} {i : Int} (e : opD r o = some (.tup xs)) (h : 0 ≤ i) : (opD r o).bind (sliceOf m none (some i)) = some (.tup (xs.take i.toNat)) := by
  rw [e]
  show sliceOf m none (some i) (.tup xs) = _
  rw [slice_t, slice_to h]
theorem sl_fromT {r : List Sl} {m : List D} {o : Op} {xs : List D} {i : Int} (e : opD r o = some (.tup xs)) (h : 0 ≤ i) : (opD r o).bind (sliceOf m (some i) none) = some (.tup (xs.drop i.toNat)) := by
  rw [e]
  show sliceOf m (some i) none (.tup xs) = _
  rw [slice_t, slice_from h]
/-- a pair -/
abbrev pr (a b : D) : D := .tup [a, b]
end Mi
end
section
set_option maxRecDepth 100000
namespace P
open PySem Mi
/-- is_name -/
def d_is_name : Fd := ⟨1, ["value", "letter"], .any, [(.ret (.and [(.isi false (.e (.v 0)) ["str"]), (.chain .le .le (.k (.int 1)) (.bi .len [(.e (.v 0))]) (.gl "MAX_LENGTH" (.int 8))), (.bi .all [(.e (.lc [1] (.bi .isin [(.e (.v 1)), (.e (.gl "LETTERS" (.str "abcdefghijklmnopqrstuvwxyz")))]) (.s 1) (.seq (.v 0)) []))])]))]⟩
/-- is_row -/
def d_is_row : Fd := ⟨1, ["value"], .any, [(.ret (.isi true (.e (.v 0)) ["list", "tuple"]))]⟩
/-- are_vertices -/
def d_are_vertices : Fd := ⟨1, ["value", "name"], .any, [(.ite (.or [(.not (.call 77 [(.v 0)])), (.not (.chain .le .le (.k (.int 1)) (.bi .len [(.e (.v 0))]) (.gl "MAX_VERTICES" (.int 8))))]) [(.ret (.k (.bl false)))] []),
    (.ret (.and [(.bi .all [(.e (.lc [1] (.call 67 [(.v 1)]) (.s 1) (.seq (.v 0)) []))]), (.bi .eq [(.e (.bi .lset [(.e (.v 0))])), (.e (.bi .len [(.e (.v 0))]))])]))]⟩
/-- joins -/
def d_joins : Fd := ⟨2, ["vertices", "value", "end"], .any, [(.ite (.or [(.not (.isi false (.e (.v 1)) ["tuple"])), (.bi .ne [(.e (.bi .len [(.e (.v 1))])), (.e (.k (.int 2)))])]) [(.ret (.k (.bl false)))] []),
    (.ret (.and [(.bi .all [(.e (.lc [2] (.and [(.call 67 [(.v 2)]), (.bi .isin [(.e (.v 2)), (.e (.v 0))])]) (.s 2) (.seq (.v 1)) []))]), (.bi .lt [(.e (.bi .idx [(.e (.v 1)), (.e (.k (.int 0)))])), (.e (.bi .idx [(.e (.v 1)), (.e (.k (.int 1)))]))])]))]⟩
/-- are_edges -/
def d_are_edges : Fd := ⟨2, ["vertices", "value", "edge"], .any, [(.ite (.or [(.not (.call 77 [(.v 1)])), (.bi .gt [(.e (.bi .len [(.e (.v 1))])), (.e (.gl "MAX_EDGES" (.int 18)))])]) [(.ret (.k (.bl false)))] []),
    (.ret (.and [(.bi .all [(.e (.lc [2] (.call 81 [(.v 0), (.v 2)]) (.s 2) (.seq (.v 1)) []))]), (.bi .eq [(.e (.bi .lset [(.e (.v 1))])), (.e (.bi .len [(.e (.v 1))]))])]))]⟩
/-- Graph.__init__ -/
def d_Graph_init : Fd := ⟨3, ["self", "vertices", "edges"], (.init "Graph"), [(.ite (.not (.call 23 [(.v 1)])) [(.raise "NoGraph" [(.k (.str "vertices"))])] []),
    (.ite (.not (.call 18 [(.v 1), (.v 2)])) [(.raise "NoGraph" [(.k (.str "edges"))])] []),
    (.fld 0 "vertices" (.bi .tuple [(.e (.v 1))])),
    (.fld 0 "edges" (.bi .tuple [(.e (.bi .sort [(.e (.v 2))]))]))]⟩
/-- are_apart -/
def d_are_apart : Fd := ⟨2, ["one", "other"], .any, [(.ret (.and [(.bi .notin [(.e (.bi .idx [(.e (.v 0)), (.e (.k (.int 0)))])), (.e (.v 1))]), (.bi .notin [(.e (.bi .idx [(.e (.v 0)), (.e (.k (.int 1)))])), (.e (.v 1))])]))]⟩
/-- pairs -/
def d_pairs : Fd := ⟨1, ["graph", "found", "at", "one", "other"], .new, [(.setO 1 (.lst [])),
    (.for (.t [(.s 2), (.s 3)]) (.enum (.att (.e (.v 0)) "edges")) [(.ext 1 (.lc [4] (.tup [(.v 3), (.v 4)]) (.s 4) (.seq (.s10 (.e (.att (.e (.v 0)) "edges")) (.bi .add [(.e (.v 2)), (.e (.k (.int 1)))]))) [(.call 16 [(.v 3), (.v 4)])]))]),
    (.retO 1)]⟩
/-- _law_cell_at -/
def d__law_cell_at : Fd := ⟨2, ["_law_script", "_law_k"], .any, [(.ite (.bi .lt [(.e (.v 1)), (.e (.bi .len [(.e (.v 0))]))]) [(.ret (.bi .idx [(.e (.v 0)), (.e (.v 1))]))] []),
    (.ret (.k (.int 0)))]⟩
/-- _law_source_of -/
def d__law_source_of : Fd := ⟨1, ["_law_cell"], .new, [(.set 0 (.ife (.bi .ge [(.e (.v 0)), (.e (.k (.int 0)))]) (.v 0) (.bi .sub [(.e (.bi .sub [(.e (.k (.int 0))), (.e (.bi .mul [(.e (.k (.int 3))), (.e (.v 0))]))])), (.e (.k (.int 1)))]))),
    (.retF (.lst [(.bi .mul [(.e (.v 0)), (.e (.bi .int [(.e (.bi .ge [(.e (.v 0)), (.e (.bi .pow [(.e (.k (.int 10))), (.e (.k (.int 18)))]))]))]))]), (.bi .mod [(.e (.v 0)), (.e (.k (.int 2147483647)))]), (.k (.int 0))]))]⟩
/-- _law_next -/
def d__law_next : Fd := ⟨2, ["_law_source", "_law_many", "_law_found", "_law_prime", "_law_number"], .any, [(.ite (.bi .gt [(.e (.bi .idx [(.e (.v 0)), (.e (.k (.int 0)))])), (.e (.k (.int 0)))]) [(.set 2 (.bi .mod [(.e (.bi .idx [(.e (.v 0)), (.e (.k (.int 0)))])), (.e (.v 1))])),
    (.setL 0 (.k (.int 0)) (.bi .fdiv [(.e (.bi .idx [(.e (.v 0)), (.e (.k (.int 0)))])), (.e (.v 1))])),
    (.ret (.v 2))] []),
    (.setL 0 (.k (.int 2)) (.bi .add [(.e (.bi .idx [(.e (.v 0)), (.e (.k (.int 2)))])), (.e (.k (.int 1)))])),
    (.set 3 (.k (.int 2147483647))),
    (.set 4 (.bi .mod [(.e (.bi .add [(.e (.bi .add [(.e (.bi .idx [(.e (.v 0)), (.e (.k (.int 1)))])), (.e (.bi .mul [(.e (.k (.int 104729))), (.e (.bi .idx [(.e (.v 0)), (.e (.k (.int 2)))]))]))])), (.e (.k (.int 7919)))])), (.e (.v 3))])),
    (.set 4 (.bi .mod [(.e (.bi .mul [(.e (.v 4)), (.e (.k (.int 48271)))])), (.e (.v 3))])),
    (.set 4 (.bi .mod [(.e (.bi .mul [(.e (.v 4)), (.e (.bi .add [(.e (.bi .fdiv [(.e (.v 4)), (.e (.k (.int 1009)))])), (.e (.k (.int 69621)))]))])), (.e (.v 3))])),
    (.set 4 (.bi .mod [(.e (.bi .mul [(.e (.v 4)), (.e (.bi .add [(.e (.bi .fdiv [(.e (.v 4)), (.e (.k (.int 2003)))])), (.e (.k (.int 40692)))]))])), (.e (.k (.int 2147483399)))])),
    (.ret (.bi .mod [(.e (.bi .fdiv [(.e (.v 4)), (.e (.k (.int 7)))])), (.e (.v 1))]))]⟩
/-- _law_one -/
def d__law_one : Fd := ⟨2, ["_law_source", "_law_some"], .any, [(.ret (.bi .idx [(.e (.v 1)), (.e (.call 1102 [(.v 0), (.bi .len [(.e (.v 1))])]))]))]⟩
/-- _law_mixed -/
def d__law_mixed : Fd := ⟨2, ["_law_source", "_law_some", "_law_left", "_law_found"], .new, [(.setO 2 (.bi .list [(.e (.v 1))])),
    (.setO 3 (.lst [])),
    (.while (.bi .ne [(.b 2), (.e (.lst []))]) [(.app 3 (.popA 2 (.call 1102 [(.v 0), (.bi .len [(.b 2)])])))]),
    (.retO 3)]⟩
/-- _law_graph -/
def d__law_graph : Fd := ⟨2, ["_law_source", "_law_most", "_law_names", "_law_edges", "_law_name", "_law_limit", "_law_end"], .any, [(.set 2 (.s01 (.e (.call 1096 [(.v 0), (.lst [(.k (.str "a")), (.k (.str "ab")), (.k (.str "b")), (.k (.str "x")), (.k (.str "zzzzzzzz")), (.k (.str "node")), (.k (.str "k")), (.k (.str "c"))])])) (.bi .add [(.e (.k (.int 1))), (.e (.call 1102 [(.v 0), (.v 1)]))]))),
    (.setO 3 (.lst [])),
    (.for (.s 4) (.seq (.v 2)) [(.ext 3 (.lc [6] (.tup [(.v 4), (.v 6)]) (.s 6) (.seq (.v 2)) [(.bi .lt [(.e (.v 4)), (.e (.v 6))])]))]),
    (.fr [3] (.setO 3 (.call 1096 [(.v 0), (.v 3)]))),
    (.set 5 (.call 1111 [(.v 0), (.lst [(.k (.int 18)), (.bi .add [(.e (.bi .len [(.e (.v 2))])), (.e (.k (.int 1)))]), (.bi .mul [(.e (.k (.int 2))), (.e (.bi .len [(.e (.v 2))]))]), (.call 1102 [(.v 0), (.bi .add [(.e (.bi .len [(.b 3)])), (.e (.k (.int 1)))])])])])),
    (.ret (.tup [(.v 2), (.s01 (.b 3) (.bi .min2 [(.e (.v 5)), (.e (.k (.int 18)))]))]))]⟩
/-- _law_pairs -/
def d__law_pairs : Fd := ⟨1, ["_law_edges", "_law_found", "_law_one_here", "_law_far", "_law_other"], .new, [(.setO 1 (.lst [])),
    (.for (.s 2) (.seq (.bi .sort [(.e (.v 0))])) [(.set 3 (.lc [4] (.v 4) (.s 4) (.seq (.bi .sort [(.e (.v 0))])) [(.and [(.bi .notin [(.e (.bi .idx [(.e (.v 2)), (.e (.k (.int 0)))])), (.e (.v 4))]), (.bi .notin [(.e (.bi .idx [(.e (.v 2)), (.e (.k (.int 1)))])), (.e (.v 4))])])])),
    (.ext 1 (.lc [4] (.tup [(.v 2), (.v 4)]) (.s 4) (.seq (.v 3)) [(.bi .lt [(.e (.v 2)), (.e (.v 4))])]))]),
    (.retO 1)]⟩
def FB : Nat → Option Fn
  | 6 => some (.d d_Graph_init)
  | 16 => some (.d d_are_apart)
  | 18 => some (.d d_are_edges)
  | 23 => some (.d d_are_vertices)
  | 67 => some (.d d_is_name)
  | 77 => some (.d d_is_row)
  | 81 => some (.d d_joins)
  | 95 => some (.d d_pairs)
  | 1022 => some (.d d__law_cell_at)
  | 1068 => some (.d d__law_graph)
  | 1096 => some (.d d__law_mixed)
  | 1102 => some (.d d__law_next)
  | 1111 => some (.d d__law_one)
  | 1114 => some (.d d__law_pairs)
  | 1151 => some (.d d__law_source_of)
  | _ => none
def ini (c : Str) : Option Nat := if c = "Graph" then some 6 else none
theorem subB {F : Nat → Option Fn} (h : ∀ x ∈ [6, 16, 18, 23, 67, 77, 81, 95, 1022, 1068, 1096, 1102, 1111, 1114, 1151], F x = FB x) : ∀ f d, FB f = some d → F f = some d := fun f d e => by
  unfold FB at e
  split at e <;> first | (cases e; exact h _ (by decide)) | cases e
end P
end
section
set_option maxRecDepth 100000
namespace P
open PySem Mi
/-- law -/
def d_law : Fd := ⟨1, ["_law_script", "_law_cell", "_law_source", "_law_names", "_law_edges", "_law_graph_here", "_law_due", "_law_k", "_law_told"], .any, [(.for (.s 1) (.seq (.bi .add [(.e (.lst [(.call 1022 [(.v 0), (.k (.int 0))])])), (.e (.s11 (.e (.v 0)) (.k (.int 1)) (.k (.int 6))))])) [(.box 2 (.call 1151 [(.v 1)])),
    (.setT (.t [(.s 3), (.s 4)]) (.call 1068 [(.v 2), (.k (.int 8))])),
    (.set 5 (.mk "Graph" [(.v 3), (.v 4)])),
    (.set 6 (.call 1114 [(.v 4)])),
    (.for (.s 7) (.rng (.k (.int 2))) [(.setO 8 (.call 95 [(.v 5)])),
    (.ite (.or [(.bi .ne [(.b 8), (.e (.v 6))]), (.not (.isi false (.b 8) ["list"]))]) [(.ret (.k (.bl false)))] []),
    (.revs 8),
    (.app 8 (.k .non))]),
    (.ite (.bi .ne [(.e (.call 95 [(.mk "Graph" [(.bi .rev [(.e (.v 3))]), (.call 1096 [(.v 2), (.v 4)])])])), (.e (.v 6))]) [(.ret (.k (.bl false)))] [])]),
    (.ret (.k (.bl true)))]⟩
def F : Nat → Option Fn
  | 6 => some (.d d_Graph_init)
  | 16 => some (.d d_are_apart)
  | 18 => some (.d d_are_edges)
  | 23 => some (.d d_are_vertices)
  | 67 => some (.d d_is_name)
  | 77 => some (.d d_is_row)
  | 81 => some (.d d_joins)
  | 95 => some (.d d_pairs)
  | 1022 => some (.d d__law_cell_at)
  | 1068 => some (.d d__law_graph)
  | 1096 => some (.d d__law_mixed)
  | 1102 => some (.d d__law_next)
  | 1111 => some (.d d__law_one)
  | 1114 => some (.d d__law_pairs)
  | 1151 => some (.d d__law_source_of)
  | 1170 => some (.d d_law)
  | _ => none
theorem sub03 : ∀ f d, FB f = some d → F f = some d := subB (by
  intro x hx
  simp only [List.mem_cons, List.not_mem_nil, or_false] at hx
  rcases hx with rfl | rfl | rfl | rfl | rfl | rfl | rfl | rfl | rfl | rfl | rfl | rfl | rfl | rfl | rfl <;> rfl)
end P
end
section
set_option maxRecDepth 100000
open PySem L2 Mi
namespace P
/-! ### the text by places -/
def top (i : Nat) : Stmt := PySem.Challenge.pw_crossparity_k03_pairs_listed.main.body.getD i (.Pass ⟨0, 0, 0, 0⟩)
def dl : List (Str × Nat × Nat × Bool) := [("is_name", 67, 1, false), ("is_row", 77, 1, false), ("are_vertices", 23, 1, false), ("joins", 81, 2, false), ("are_edges", 18, 2, false), ("are_apart", 16, 2, false), ("pairs", 95, 1, true), ("_law_cell_at", 1022, 2, false), ("_law_source_of", 1151, 1, true), ("_law_next", 1102, 2, false), ("_law_one", 1111, 2, false), ("_law_mixed", 1096, 2, true), ("_law_graph", 1068, 2, false), ("_law_pairs", 1114, 1, true), ("law", 1170, 1, false)]
def cl : List (Str × Nat × Nat) := [("Graph", 6, 3)]
def ks : List (Str × D) := [("LETTERS", (.str "abcdefghijklmnopqrstuvwxyz")), ("MAX_LENGTH", (.int 8)), ("MAX_VERTICES", (.int 8)), ("MAX_EDGES", (.int 18))]
def pn : Pn := ⟨fun x => dl.lookup x, cl, fun x => ks.lookup x, ["edges", "vertices"]⟩
theorem c67 : chkFd pn d_is_name (defScope (top 6)) (defBody (top 6)) = true := by decide +kernel
theorem s67 : FnScope d_is_name.ns (d_is_name.ns.take 1) (defScope (top 6)) := ⟨rfl, rfl, rfl, by decide +kernel, rfl, by decide +kernel, by decide +kernel⟩
theorem b67 : BindsOk (top 6) "is_name" "is_name" (d_is_name.ns.take 1) := fun _ _ _ _ _ _ us hl => match us, hl with | [_], _ => rfl
theorem c77 : chkFd pn d_is_row (defScope (top 7)) (defBody (top 7)) = true := by decide +kernel
theorem s77 : FnScope d_is_row.ns (d_is_row.ns.take 1) (defScope (top 7)) := ⟨rfl, rfl, rfl, by decide +kernel, rfl, by decide +kernel, by decide +kernel⟩
theorem b77 : BindsOk (top 7) "is_row" "is_row" (d_is_row.ns.take 1) := fun _ _ _ _ _ _ us hl => match us, hl with | [_], _ => rfl
theorem c23 : chkFd pn d_are_vertices (defScope (top 11)) (defBody (top 11)) = true := by decide +kernel
theorem s23 : FnScope d_are_vertices.ns (d_are_vertices.ns.take 1) (defScope (top 11)) := ⟨rfl, rfl, rfl, by decide +kernel, rfl, by decide +kernel, by decide +kernel⟩
theorem b23 : BindsOk (top 11) "are_vertices" "are_vertices" (d_are_vertices.ns.take 1) := fun _ _ _ _ _ _ us hl => match us, hl with | [_], _ => rfl
theorem c81 : chkFd pn d_joins (defScope (top 12)) (defBody (top 12)) = true := by decide +kernel
theorem s81 : FnScope d_joins.ns (d_joins.ns.take 2) (defScope (top 12)) := ⟨rfl, rfl, rfl, by decide +kernel, rfl, by decide +kernel, by decide +kernel⟩
theorem b81 : BindsOk (top 12) "joins" "joins" (d_joins.ns.take 2) := fun _ _ _ _ _ _ us hl => match us, hl with | [_, _], _ => rfl
theorem c18 : chkFd pn d_are_edges (defScope (top 13)) (defBody (top 13)) = true := by decide +kernel
theorem s18 : FnScope d_are_edges.ns (d_are_edges.ns.take 2) (defScope (top 13)) := ⟨rfl, rfl, rfl, by decide +kernel, rfl, by decide +kernel, by decide +kernel⟩
theorem b18 : BindsOk (top 13) "are_edges" "are_edges" (d_are_edges.ns.take 2) := fun _ _ _ _ _ _ us hl => match us, hl with | [_, _], _ => rfl
theorem c16 : chkFd pn d_are_apart (defScope (top 15)) (defBody (top 15)) = true := by decide +kernel
theorem s16 : FnScope d_are_apart.ns (d_are_apart.ns.take 2) (defScope (top 15)) := ⟨rfl, rfl, rfl, by decide +kernel, rfl, by decide +kernel, by decide +kernel⟩
theorem b16 : BindsOk (top 15) "are_apart" "are_apart" (d_are_apart.ns.take 2) := fun _ _ _ _ _ _ us hl => match us, hl with | [_, _], _ => rfl
theorem c95 : chkFd pn d_pairs (defScope (top 16)) (defBody (top 16)) = true := by decide +kernel
theorem s95 : FnScope d_pairs.ns (d_pairs.ns.take 1) (defScope (top 16)) := ⟨rfl, rfl, rfl, by decide +kernel, rfl, by decide +kernel, by decide +kernel⟩
theorem b95 : BindsOk (top 16) "pairs" "pairs" (d_pairs.ns.take 1) := fun _ _ _ _ _ _ us hl => match us, hl with | [_], _ => rfl
theorem c1022 : chkFd pn d__law_cell_at (defScope (top 18)) (defBody (top 18)) = true := by decide +kernel
theorem s1022 : FnScope d__law_cell_at.ns (d__law_cell_at.ns.take 2) (defScope (top 18)) := ⟨rfl, rfl, rfl, by decide +kernel, rfl, by decide +kernel, by decide +kernel⟩
theorem b1022 : BindsOk (top 18) "_law_cell_at" "_law_cell_at" (d__law_cell_at.ns.take 2) := fun _ _ _ _ _ _ us hl => match us, hl with | [_, _], _ => rfl
theorem c1151 : chkFd pn d__law_source_of (defScope (top 19)) (defBody (top 19)) = true := by decide +kernel
theorem s1151 : FnScope d__law_source_of.ns (d__law_source_of.ns.take 1) (defScope (top 19)) := ⟨rfl, rfl, rfl, by decide +kernel, rfl, by decide +kernel, by decide +kernel⟩
theorem b1151 : BindsOk (top 19) "_law_source_of" "_law_source_of" (d__law_source_of.ns.take 1) := fun _ _ _ _ _ _ us hl => match us, hl with | [_], _ => rfl
theorem c1102 : chkFd pn d__law_next (defScope (top 20)) (defBody (top 20)) = true := by decide +kernel
theorem s1102 : FnScope d__law_next.ns (d__law_next.ns.take 2) (defScope (top 20)) := ⟨rfl, rfl, rfl, by decide +kernel, rfl, by decide +kernel, by decide +kernel⟩
theorem b1102 : BindsOk (top 20) "_law_next" "_law_next" (d__law_next.ns.take 2) := fun _ _ _ _ _ _ us hl => match us, hl with | [_, _], _ => rfl
theorem c1111 : chkFd pn d__law_one (defScope (top 21)) (defBody (top 21)) = true := by decide +kernel
theorem s1111 : FnScope d__law_one.ns (d__law_one.ns.take 2) (defScope (top 21)) := ⟨rfl, rfl, rfl, by decide +kernel, rfl, by decide +kernel, by decide +kernel⟩
theorem b1111 : BindsOk (top 21) "_law_one" "_law_one" (d__law_one.ns.take 2) := fun _ _ _ _ _ _ us hl => match us, hl with | [_, _], _ => rfl
theorem c1096 : chkFd pn d__law_mixed (defScope (top 22)) (defBody (top 22)) = true := by decide +kernel
theorem s1096 : FnScope d__law_mixed.ns (d__law_mixed.ns.take 2) (defScope (top 22)) := ⟨rfl, rfl, rfl, by decide +kernel, rfl, by decide +kernel, by decide +kernel⟩
theorem b1096 : BindsOk (top 22) "_law_mixed" "_law_mixed" (d__law_mixed.ns.take 2) := fun _ _ _ _ _ _ us hl => match us, hl with | [_, _], _ => rfl
theorem c1068 : chkFd pn d__law_graph (defScope (top 23)) (defBody (top 23)) = true := by decide +kernel
theorem s1068 : FnScope d__law_graph.ns (d__law_graph.ns.take 2) (defScope (top 23)) := ⟨rfl, rfl, rfl, by decide +kernel, rfl, by decide +kernel, by decide +kernel⟩
theorem b1068 : BindsOk (top 23) "_law_graph" "_law_graph" (d__law_graph.ns.take 2) := fun _ _ _ _ _ _ us hl => match us, hl with | [_, _], _ => rfl
theorem c1114 : chkFd pn d__law_pairs (defScope (top 24)) (defBody (top 24)) = true := by decide +kernel
theorem s1114 : FnScope d__law_pairs.ns (d__law_pairs.ns.take 1) (defScope (top 24)) := ⟨rfl, rfl, rfl, by decide +kernel, rfl, by decide +kernel, by decide +kernel⟩
theorem b1114 : BindsOk (top 24) "_law_pairs" "_law_pairs" (d__law_pairs.ns.take 1) := fun _ _ _ _ _ _ us hl => match us, hl with | [_], _ => rfl
theorem c1170 : chkFd pn d_law (defScope (top 25)) (defBody (top 25)) = true := by decide +kernel
theorem s1170 : FnScope d_law.ns (d_law.ns.take 1) (defScope (top 25)) := ⟨rfl, rfl, rfl, by decide +kernel, rfl, by decide +kernel, by decide +kernel⟩
theorem b1170 : BindsOk (top 25) "law" "law" (d_law.ns.take 1) := fun _ _ _ _ _ _ us hl => match us, hl with | [_], _ => rfl
theorem c6 : chkFd pn d_Graph_init (defScope (inClass (top 14) 0)) (defBody (inClass (top 14) 0)) = true := by decide +kernel
theorem s6 : FnScope d_Graph_init.ns (d_Graph_init.ns.take 3) (defScope (inClass (top 14) 0)) := ⟨rfl, rfl, rfl, by decide +kernel, rfl, by decide +kernel, by decide +kernel⟩
theorem b6 : BindsOk (inClass (top 14) 0) "__init__" "Graph.__init__" (d_Graph_init.ns.take 3) := fun _ _ _ _ _ _ us hl => match us, hl with | [_, _, _], _ => rfl
end P
end
section
set_option maxRecDepth 100000
namespace P
open PySem Mi
section
variable {F : Nat → Option Fn} {ini : Str → Option Nat} {W : Nat} (hF : ∀ f d, FB f = some d → F f = some d)
include hF
theorem s_next {n s : Nat} {m : List D} {many : Int} (h : Src m s) (h1 : 0 < many) (h2 : many < 2 ^ 60) : RunC (call F ini W (n + 1) 1102 [.loc s, .int many] m) fun d m' => ∃ v, d = .int v ∧ 0 ≤ v ∧ v < many ∧ Up m m' s := by
  obtain ⟨a, b, c, ha, hb, hc0, e⟩ := id h
  refine run_def (r := [.v (.loc s), .v (.int many), .un, .un, .un]) (hF _ _ rfl) (by intro c h; cases h) rfl rfl ?_
  dsimp only [d__law_next]
  (repeat (first | with_reducible apply run_snil | (with_reducible apply is_S (.set _ _); refine run_snx (run_set ?_)) | (with_reducible apply is_S (.setL _ _ _); refine run_snx (run_setL ?_)) | (with_reducible apply is_S (.ret _); refine run_scons (run_ret ?_)) | (with_reducible apply is_S (.ite _ _ _); refine run_scons (run_ite ?_)) | with_reducible apply run_k | with_reducible apply r_bi | with_reducible apply run_nil | with_reducible apply run_cons | with_reducible apply run_anil | with_reducible apply run_acons | with_reducible apply run_ae | (with_reducible apply is_E (.v _); refine run_v rfl ?_) | (with_reducible apply is_Bo .add; refine bo_addI rfl ?_) | (with_reducible apply is_Bo .gt; refine bo_gtI rfl ?_) | (with_reducible apply is_Bo .mod; refine bo_mod rfl (by decide) ?_) | (with_reducible apply is_Bo .fdiv; refine bo_fdiv rfl (by decide) (by decide) ?_) | (with_reducible apply is_Bo .mul; refine bo_mul rfl (.inl (by decide)) ?_) | (with_reducible apply is_Bo .mul; refine bo_mul rfl (.inr (by decide)) ?_) | with_reducible refine .inl ⟨rfl, ?_⟩ | with_reducible refine .inr ⟨_, rfl, ?_⟩ | refine ⟨Nat.le_of_ble_eq_true rfl, ?_⟩ | with_reducible refine ⟨rfl, ?_⟩ | with_reducible refine ⟨isCont_l, ?_⟩))
  refine bo_idx rfl (seq_loc e) rfl rfl ?_
  (repeat (first | with_reducible apply run_snil | (with_reducible apply is_S (.set _ _); refine run_snx (run_set ?_)) | (with_reducible apply is_S (.setL _ _ _); refine run_snx (run_setL ?_)) | (with_reducible apply is_S (.ret _); refine run_scons (run_ret ?_)) | (with_reducible apply is_S (.ite _ _ _); refine run_scons (run_ite ?_)) | with_reducible apply run_k | with_reducible apply r_bi | with_reducible apply run_nil | with_reducible apply run_cons | with_reducible apply run_anil | with_reducible apply run_acons | with_reducible apply run_ae | (with_reducible apply is_E (.v _); refine run_v rfl ?_) | (with_reducible apply is_Bo .add; refine bo_addI rfl ?_) | (with_reducible apply is_Bo .gt; refine bo_gtI rfl ?_) | (with_reducible apply is_Bo .mod; refine bo_mod rfl (by decide) ?_) | (with_reducible apply is_Bo .fdiv; refine bo_fdiv rfl (by decide) (by decide) ?_) | (with_reducible apply is_Bo .mul; refine bo_mul rfl (.inl (by decide)) ?_) | (with_reducible apply is_Bo .mul; refine bo_mul rfl (.inr (by decide)) ?_) | with_reducible refine .inl ⟨rfl, ?_⟩ | with_reducible refine .inr ⟨_, rfl, ?_⟩ | refine ⟨Nat.le_of_ble_eq_true rfl, ?_⟩ | with_reducible refine ⟨rfl, ?_⟩ | with_reducible refine ⟨isCont_l, ?_⟩))
  refine ⟨_, rfl, fun hc => ?_, fun hc => ?_⟩
  · have ha0 : 0 < a := of_decide_eq_true hc
    (repeat (first | with_reducible apply run_snil | (with_reducible apply is_S (.set _ _); refine run_snx (run_set ?_)) | (with_reducible apply is_S (.setL _ _ _); refine run_snx (run_setL ?_)) | (with_reducible apply is_S (.ret _); refine run_scons (run_ret ?_)) | (with_reducible apply is_S (.ite _ _ _); refine run_scons (run_ite ?_)) | with_reducible apply run_k | with_reducible apply r_bi | with_reducible apply run_nil | with_reducible apply run_cons | with_reducible apply run_anil | with_reducible apply run_acons | with_reducible apply run_ae | (with_reducible apply is_E (.v _); refine run_v rfl ?_) | (with_reducible apply is_Bo .add; refine bo_addI rfl ?_) | (with_reducible apply is_Bo .gt; refine bo_gtI rfl ?_) | (with_reducible apply is_Bo .mod; refine bo_mod rfl (by decide) ?_) | (with_reducible apply is_Bo .fdiv; refine bo_fdiv rfl (by decide) (by decide) ?_) | (with_reducible apply is_Bo .mul; refine bo_mul rfl (.inl (by decide)) ?_) | (with_reducible apply is_Bo .mul; refine bo_mul rfl (.inr (by decide)) ?_) | with_reducible refine .inl ⟨rfl, ?_⟩ | with_reducible refine .inr ⟨_, rfl, ?_⟩ | refine ⟨Nat.le_of_ble_eq_true rfl, ?_⟩ | with_reducible refine ⟨rfl, ?_⟩ | with_reducible refine ⟨isCont_l, ?_⟩))
    refine bo_idx rfl (seq_loc e) rfl rfl ?_
    (repeat (first | with_reducible apply run_snil | (with_reducible apply is_S (.set _ _); refine run_snx (run_set ?_)) | (with_reducible apply is_S (.setL _ _ _); refine run_snx (run_setL ?_)) | (with_reducible apply is_S (.ret _); refine run_scons (run_ret ?_)) | (with_reducible apply is_S (.ite _ _ _); refine run_scons (run_ite ?_)) | with_reducible apply run_k | with_reducible apply r_bi | with_reducible apply run_nil | with_reducible apply run_cons | with_reducible apply run_anil | with_reducible apply run_acons | with_reducible apply run_ae | (with_reducible apply is_E (.v _); refine run_v rfl ?_) | (with_reducible apply is_Bo .add; refine bo_addI rfl ?_) | (with_reducible apply is_Bo .gt; refine bo_gtI rfl ?_) | (with_reducible apply is_Bo .mod; refine bo_mod rfl (by decide) ?_) | (with_reducible apply is_Bo .fdiv; refine bo_fdiv rfl (by decide) (by decide) ?_) | (with_reducible apply is_Bo .mul; refine bo_mul rfl (.inl (by decide)) ?_) | (with_reducible apply is_Bo .mul; refine bo_mul rfl (.inr (by decide)) ?_) | with_reducible refine .inl ⟨rfl, ?_⟩ | with_reducible refine .inr ⟨_, rfl, ?_⟩ | refine ⟨Nat.le_of_ble_eq_true rfl, ?_⟩ | with_reducible refine ⟨rfl, ?_⟩ | with_reducible refine ⟨isCont_l, ?_⟩))
    refine bo_mod rfl (by omega) ?_
    (repeat (first | with_reducible apply run_snil | (with_reducible apply is_S (.set _ _); refine run_snx (run_set ?_)) | (with_reducible apply is_S (.setL _ _ _); refine run_snx (run_setL ?_)) | (with_reducible apply is_S (.ret _); refine run_scons (run_ret ?_)) | (with_reducible apply is_S (.ite _ _ _); refine run_scons (run_ite ?_)) | with_reducible apply run_k | with_reducible apply r_bi | with_reducible apply run_nil | with_reducible apply run_cons | with_reducible apply run_anil | with_reducible apply run_acons | with_reducible apply run_ae | (with_reducible apply is_E (.v _); refine run_v rfl ?_) | (with_reducible apply is_Bo .add; refine bo_addI rfl ?_) | (with_reducible apply is_Bo .gt; refine bo_gtI rfl ?_) | (with_reducible apply is_Bo .mod; refine bo_mod rfl (by decide) ?_) | (with_reducible apply is_Bo .fdiv; refine bo_fdiv rfl (by decide) (by decide) ?_) | (with_reducible apply is_Bo .mul; refine bo_mul rfl (.inl (by decide)) ?_) | (with_reducible apply is_Bo .mul; refine bo_mul rfl (.inr (by decide)) ?_) | with_reducible refine .inl ⟨rfl, ?_⟩ | with_reducible refine .inr ⟨_, rfl, ?_⟩ | refine ⟨Nat.le_of_ble_eq_true rfl, ?_⟩ | with_reducible refine ⟨rfl, ?_⟩ | with_reducible refine ⟨isCont_l, ?_⟩))
    refine bo_idx rfl (seq_loc e) rfl rfl ?_
    (repeat (first | with_reducible apply run_snil | (with_reducible apply is_S (.set _ _); refine run_snx (run_set ?_)) | (with_reducible apply is_S (.setL _ _ _); refine run_snx (run_setL ?_)) | (with_reducible apply is_S (.ret _); refine run_scons (run_ret ?_)) | (with_reducible apply is_S (.ite _ _ _); refine run_scons (run_ite ?_)) | with_reducible apply run_k | with_reducible apply r_bi | with_reducible apply run_nil | with_reducible apply run_cons | with_reducible apply run_anil | with_reducible apply run_acons | with_reducible apply run_ae | (with_reducible apply is_E (.v _); refine run_v rfl ?_) | (with_reducible apply is_Bo .add; refine bo_addI rfl ?_) | (with_reducible apply is_Bo .gt; refine bo_gtI rfl ?_) | (with_reducible apply is_Bo .mod; refine bo_mod rfl (by decide) ?_) | (with_reducible apply is_Bo .fdiv; refine bo_fdiv rfl (by decide) (by decide) ?_) | (with_reducible apply is_Bo .mul; refine bo_mul rfl (.inl (by decide)) ?_) | (with_reducible apply is_Bo .mul; refine bo_mul rfl (.inr (by decide)) ?_) | with_reducible refine .inl ⟨rfl, ?_⟩ | with_reducible refine .inr ⟨_, rfl, ?_⟩ | refine ⟨Nat.le_of_ble_eq_true rfl, ?_⟩ | with_reducible refine ⟨rfl, ?_⟩ | with_reducible refine ⟨isCont_l, ?_⟩))
    refine bo_fdiv rfl h1 (by omega) ?_
    (repeat (first | with_reducible apply run_snil | (with_reducible apply is_S (.set _ _); refine run_snx (run_set ?_)) | (with_reducible apply is_S (.setL _ _ _); refine run_snx (run_setL ?_)) | (with_reducible apply is_S (.ret _); refine run_scons (run_ret ?_)) | (with_reducible apply is_S (.ite _ _ _); refine run_scons (run_ite ?_)) | with_reducible apply run_k | with_reducible apply r_bi | with_reducible apply run_nil | with_reducible apply run_cons | with_reducible apply run_anil | with_reducible apply run_acons | with_reducible apply run_ae | (with_reducible apply is_E (.v _); refine run_v rfl ?_) | (with_reducible apply is_Bo .add; refine bo_addI rfl ?_) | (with_reducible apply is_Bo .gt; refine bo_gtI rfl ?_) | (with_reducible apply is_Bo .mod; refine bo_mod rfl (by decide) ?_) | (with_reducible apply is_Bo .fdiv; refine bo_fdiv rfl (by decide) (by decide) ?_) | (with_reducible apply is_Bo .mul; refine bo_mul rfl (.inl (by decide)) ?_) | (with_reducible apply is_Bo .mul; refine bo_mul rfl (.inr (by decide)) ?_) | with_reducible refine .inl ⟨rfl, ?_⟩ | with_reducible refine .inr ⟨_, rfl, ?_⟩ | refine ⟨Nat.le_of_ble_eq_true rfl, ?_⟩ | with_reducible refine ⟨rfl, ?_⟩ | with_reducible refine ⟨isCont_l, ?_⟩))
    refine ⟨_, rfl, ?_⟩
    (repeat (first | with_reducible apply run_snil | (with_reducible apply is_S (.set _ _); refine run_snx (run_set ?_)) | (with_reducible apply is_S (.setL _ _ _); refine run_snx (run_setL ?_)) | (with_reducible apply is_S (.ret _); refine run_scons (run_ret ?_)) | (with_reducible apply is_S (.ite _ _ _); refine run_scons (run_ite ?_)) | with_reducible apply run_k | with_reducible apply r_bi | with_reducible apply run_nil | with_reducible apply run_cons | with_reducible apply run_anil | with_reducible apply run_acons | with_reducible apply run_ae | (with_reducible apply is_E (.v _); refine run_v rfl ?_) | (with_reducible apply is_Bo .add; refine bo_addI rfl ?_) | (with_reducible apply is_Bo .gt; refine bo_gtI rfl ?_) | (with_reducible apply is_Bo .mod; refine bo_mod rfl (by decide) ?_) | (with_reducible apply is_Bo .fdiv; refine bo_fdiv rfl (by decide) (by decide) ?_) | (with_reducible apply is_Bo .mul; refine bo_mul rfl (.inl (by decide)) ?_) | (with_reducible apply is_Bo .mul; refine bo_mul rfl (.inr (by decide)) ?_) | with_reducible refine .inl ⟨rfl, ?_⟩ | with_reducible refine .inr ⟨_, rfl, ?_⟩ | refine ⟨Nat.le_of_ble_eq_true rfl, ?_⟩ | with_reducible refine ⟨rfl, ?_⟩ | with_reducible refine ⟨isCont_l, ?_⟩))
    refine ⟨_, _, rfl, e, ⟨by decide, by simp, by decide⟩, ?_⟩
    (repeat (first | with_reducible apply run_snil | (with_reducible apply is_S (.set _ _); refine run_snx (run_set ?_)) | (with_reducible apply is_S (.setL _ _ _); refine run_snx (run_setL ?_)) | (with_reducible apply is_S (.ret _); refine run_scons (run_ret ?_)) | (with_reducible apply is_S (.ite _ _ _); refine run_scons (run_ite ?_)) | with_reducible apply run_k | with_reducible apply r_bi | with_reducible apply run_nil | with_reducible apply run_cons | with_reducible apply run_anil | with_reducible apply run_acons | with_reducible apply run_ae | (with_reducible apply is_E (.v _); refine run_v rfl ?_) | (with_reducible apply is_Bo .add; refine bo_addI rfl ?_) | (with_reducible apply is_Bo .gt; refine bo_gtI rfl ?_) | (with_reducible apply is_Bo .mod; refine bo_mod rfl (by decide) ?_) | (with_reducible apply is_Bo .fdiv; refine bo_fdiv rfl (by decide) (by decide) ?_) | (with_reducible apply is_Bo .mul; refine bo_mul rfl (.inl (by decide)) ?_) | (with_reducible apply is_Bo .mul; refine bo_mul rfl (.inr (by decide)) ?_) | with_reducible refine .inl ⟨rfl, ?_⟩ | with_reducible refine .inr ⟨_, rfl, ?_⟩ | refine ⟨Nat.le_of_ble_eq_true rfl, ?_⟩ | with_reducible refine ⟨rfl, ?_⟩ | with_reducible refine ⟨isCont_l, ?_⟩))
    exact .inl ⟨_, rfl, _, rfl, (fm h1).1, (fm h1).2, Up.set h (Int.fdiv_nonneg ha (Int.le_of_lt h1)) hb hc0⟩
  · (repeat (first | with_reducible apply run_snil | (with_reducible apply is_S (.set _ _); refine run_snx (run_set ?_)) | (with_reducible apply is_S (.setL _ _ _); refine run_snx (run_setL ?_)) | (with_reducible apply is_S (.ret _); refine run_scons (run_ret ?_)) | (with_reducible apply is_S (.ite _ _ _); refine run_scons (run_ite ?_)) | with_reducible apply run_k | with_reducible apply r_bi | with_reducible apply run_nil | with_reducible apply run_cons | with_reducible apply run_anil | with_reducible apply run_acons | with_reducible apply run_ae | (with_reducible apply is_E (.v _); refine run_v rfl ?_) | (with_reducible apply is_Bo .add; refine bo_addI rfl ?_) | (with_reducible apply is_Bo .gt; refine bo_gtI rfl ?_) | (with_reducible apply is_Bo .mod; refine bo_mod rfl (by decide) ?_) | (with_reducible apply is_Bo .fdiv; refine bo_fdiv rfl (by decide) (by decide) ?_) | (with_reducible apply is_Bo .mul; refine bo_mul rfl (.inl (by decide)) ?_) | (with_reducible apply is_Bo .mul; refine bo_mul rfl (.inr (by decide)) ?_) | with_reducible refine .inl ⟨rfl, ?_⟩ | with_reducible refine .inr ⟨_, rfl, ?_⟩ | refine ⟨Nat.le_of_ble_eq_true rfl, ?_⟩ | with_reducible refine ⟨rfl, ?_⟩ | with_reducible refine ⟨isCont_l, ?_⟩))
    refine bo_idx rfl (seq_loc e) rfl rfl ?_
    (repeat (first | with_reducible apply run_snil | (with_reducible apply is_S (.set _ _); refine run_snx (run_set ?_)) | (with_reducible apply is_S (.setL _ _ _); refine run_snx (run_setL ?_)) | (with_reducible apply is_S (.ret _); refine run_scons (run_ret ?_)) | (with_reducible apply is_S (.ite _ _ _); refine run_scons (run_ite ?_)) | with_reducible apply run_k | with_reducible apply r_bi | with_reducible apply run_nil | with_reducible apply run_cons | with_reducible apply run_anil | with_reducible apply run_acons | with_reducible apply run_ae | (with_reducible apply is_E (.v _); refine run_v rfl ?_) | (with_reducible apply is_Bo .add; refine bo_addI rfl ?_) | (with_reducible apply is_Bo .gt; refine bo_gtI rfl ?_) | (with_reducible apply is_Bo .mod; refine bo_mod rfl (by decide) ?_) | (with_reducible apply is_Bo .fdiv; refine bo_fdiv rfl (by decide) (by decide) ?_) | (with_reducible apply is_Bo .mul; refine bo_mul rfl (.inl (by decide)) ?_) | (with_reducible apply is_Bo .mul; refine bo_mul rfl (.inr (by decide)) ?_) | with_reducible refine .inl ⟨rfl, ?_⟩ | with_reducible refine .inr ⟨_, rfl, ?_⟩ | refine ⟨Nat.le_of_ble_eq_true rfl, ?_⟩ | with_reducible refine ⟨rfl, ?_⟩ | with_reducible refine ⟨isCont_l, ?_⟩))
    refine ⟨_, rfl, ?_⟩
    (repeat (first | with_reducible apply run_snil | (with_reducible apply is_S (.set _ _); refine run_snx (run_set ?_)) | (with_reducible apply is_S (.setL _ _ _); refine run_snx (run_setL ?_)) | (with_reducible apply is_S (.ret _); refine run_scons (run_ret ?_)) | (with_reducible apply is_S (.ite _ _ _); refine run_scons (run_ite ?_)) | with_reducible apply run_k | with_reducible apply r_bi | with_reducible apply run_nil | with_reducible apply run_cons | with_reducible apply run_anil | with_reducible apply run_acons | with_reducible apply run_ae | (with_reducible apply is_E (.v _); refine run_v rfl ?_) | (with_reducible apply is_Bo .add; refine bo_addI rfl ?_) | (with_reducible apply is_Bo .gt; refine bo_gtI rfl ?_) | (with_reducible apply is_Bo .mod; refine bo_mod rfl (by decide) ?_) | (with_reducible apply is_Bo .fdiv; refine bo_fdiv rfl (by decide) (by decide) ?_) | (with_reducible apply is_Bo .mul; refine bo_mul rfl (.inl (by decide)) ?_) | (with_reducible apply is_Bo .mul; refine bo_mul rfl (.inr (by decide)) ?_) | with_reducible refine .inl ⟨rfl, ?_⟩ | with_reducible refine .inr ⟨_, rfl, ?_⟩ | refine ⟨Nat.le_of_ble_eq_true rfl, ?_⟩ | with_reducible refine ⟨rfl, ?_⟩ | with_reducible refine ⟨isCont_l, ?_⟩))
    refine ⟨_, _, rfl, e, ⟨by decide, by simp, by decide⟩, ?_⟩
    have u : Up m (m.set s (.lst [.int a, .int b, .int (c + 1)])) s := Up.set h ha hb (by omega)
    have e' : (m.set s (.lst [.int a, .int b, .int (c + 1)]))[s]? = some (.lst [.int a, .int b, .int (c + 1)]) := by simp [(List.getElem?_eq_some_iff.mp e).1]
    (repeat (first | with_reducible apply run_snil | (with_reducible apply is_S (.set _ _); refine run_snx (run_set ?_)) | (with_reducible apply is_S (.setL _ _ _); refine run_snx (run_setL ?_)) | (with_reducible apply is_S (.ret _); refine run_scons (run_ret ?_)) | (with_reducible apply is_S (.ite _ _ _); refine run_scons (run_ite ?_)) | with_reducible apply run_k | with_reducible apply r_bi | with_reducible apply run_nil | with_reducible apply run_cons | with_reducible apply run_anil | with_reducible apply run_acons | with_reducible apply run_ae | (with_reducible apply is_E (.v _); refine run_v rfl ?_) | (with_reducible apply is_Bo .add; refine bo_addI rfl ?_) | (with_reducible apply is_Bo .gt; refine bo_gtI rfl ?_) | (with_reducible apply is_Bo .mod; refine bo_mod rfl (by decide) ?_) | (with_reducible apply is_Bo .fdiv; refine bo_fdiv rfl (by decide) (by decide) ?_) | (with_reducible apply is_Bo .mul; refine bo_mul rfl (.inl (by decide)) ?_) | (with_reducible apply is_Bo .mul; refine bo_mul rfl (.inr (by decide)) ?_) | with_reducible refine .inl ⟨rfl, ?_⟩ | with_reducible refine .inr ⟨_, rfl, ?_⟩ | refine ⟨Nat.le_of_ble_eq_true rfl, ?_⟩ | with_reducible refine ⟨rfl, ?_⟩ | with_reducible refine ⟨isCont_l, ?_⟩))
    refine bo_idx rfl (seq_loc e') rfl rfl ?_
    (repeat (first | with_reducible apply run_snil | (with_reducible apply is_S (.set _ _); refine run_snx (run_set ?_)) | (with_reducible apply is_S (.setL _ _ _); refine run_snx (run_setL ?_)) | (with_reducible apply is_S (.ret _); refine run_scons (run_ret ?_)) | (with_reducible apply is_S (.ite _ _ _); refine run_scons (run_ite ?_)) | with_reducible apply run_k | with_reducible apply r_bi | with_reducible apply run_nil | with_reducible apply run_cons | with_reducible apply run_anil | with_reducible apply run_acons | with_reducible apply run_ae | (with_reducible apply is_E (.v _); refine run_v rfl ?_) | (with_reducible apply is_Bo .add; refine bo_addI rfl ?_) | (with_reducible apply is_Bo .gt; refine bo_gtI rfl ?_) | (with_reducible apply is_Bo .mod; refine bo_mod rfl (by decide) ?_) | (with_reducible apply is_Bo .fdiv; refine bo_fdiv rfl (by decide) (by decide) ?_) | (with_reducible apply is_Bo .mul; refine bo_mul rfl (.inl (by decide)) ?_) | (with_reducible apply is_Bo .mul; refine bo_mul rfl (.inr (by decide)) ?_) | with_reducible refine .inl ⟨rfl, ?_⟩ | with_reducible refine .inr ⟨_, rfl, ?_⟩ | refine ⟨Nat.le_of_ble_eq_true rfl, ?_⟩ | with_reducible refine ⟨rfl, ?_⟩ | with_reducible refine ⟨isCont_l, ?_⟩))
    refine bo_idx rfl (seq_loc e') rfl rfl ?_
    (repeat (first | with_reducible apply run_snil | (with_reducible apply is_S (.set _ _); refine run_snx (run_set ?_)) | (with_reducible apply is_S (.setL _ _ _); refine run_snx (run_setL ?_)) | (with_reducible apply is_S (.ret _); refine run_scons (run_ret ?_)) | (with_reducible apply is_S (.ite _ _ _); refine run_scons (run_ite ?_)) | with_reducible apply run_k | with_reducible apply r_bi | with_reducible apply run_nil | with_reducible apply run_cons | with_reducible apply run_anil | with_reducible apply run_acons | with_reducible apply run_ae | (with_reducible apply is_E (.v _); refine run_v rfl ?_) | (with_reducible apply is_Bo .add; refine bo_addI rfl ?_) | (with_reducible apply is_Bo .gt; refine bo_gtI rfl ?_) | (with_reducible apply is_Bo .mod; refine bo_mod rfl (by decide) ?_) | (with_reducible apply is_Bo .fdiv; refine bo_fdiv rfl (by decide) (by decide) ?_) | (with_reducible apply is_Bo .mul; refine bo_mul rfl (.inl (by decide)) ?_) | (with_reducible apply is_Bo .mul; refine bo_mul rfl (.inr (by decide)) ?_) | with_reducible refine .inl ⟨rfl, ?_⟩ | with_reducible refine .inr ⟨_, rfl, ?_⟩ | refine ⟨Nat.le_of_ble_eq_true rfl, ?_⟩ | with_reducible refine ⟨rfl, ?_⟩ | with_reducible refine ⟨isCont_l, ?_⟩))
    refine bo_mul rfl (.inl (fm64 (by decide) (by decide))) ?_
    (repeat (first | with_reducible apply run_snil | (with_reducible apply is_S (.set _ _); refine run_snx (run_set ?_)) | (with_reducible apply is_S (.setL _ _ _); refine run_snx (run_setL ?_)) | (with_reducible apply is_S (.ret _); refine run_scons (run_ret ?_)) | (with_reducible apply is_S (.ite _ _ _); refine run_scons (run_ite ?_)) | with_reducible apply run_k | with_reducible apply r_bi | with_reducible apply run_nil | with_reducible apply run_cons | with_reducible apply run_anil | with_reducible apply run_acons | with_reducible apply run_ae | (with_reducible apply is_E (.v _); refine run_v rfl ?_) | (with_reducible apply is_Bo .add; refine bo_addI rfl ?_) | (with_reducible apply is_Bo .gt; refine bo_gtI rfl ?_) | (with_reducible apply is_Bo .mod; refine bo_mod rfl (by decide) ?_) | (with_reducible apply is_Bo .fdiv; refine bo_fdiv rfl (by decide) (by decide) ?_) | (with_reducible apply is_Bo .mul; refine bo_mul rfl (.inl (by decide)) ?_) | (with_reducible apply is_Bo .mul; refine bo_mul rfl (.inr (by decide)) ?_) | with_reducible refine .inl ⟨rfl, ?_⟩ | with_reducible refine .inr ⟨_, rfl, ?_⟩ | refine ⟨Nat.le_of_ble_eq_true rfl, ?_⟩ | with_reducible refine ⟨rfl, ?_⟩ | with_reducible refine ⟨isCont_l, ?_⟩))
    refine bo_mul rfl (.inl (fm64 (by decide) (by decide))) ?_
    (repeat (first | with_reducible apply run_snil | (with_reducible apply is_S (.set _ _); refine run_snx (run_set ?_)) | (with_reducible apply is_S (.setL _ _ _); refine run_snx (run_setL ?_)) | (with_reducible apply is_S (.ret _); refine run_scons (run_ret ?_)) | (with_reducible apply is_S (.ite _ _ _); refine run_scons (run_ite ?_)) | with_reducible apply run_k | with_reducible apply r_bi | with_reducible apply run_nil | with_reducible apply run_cons | with_reducible apply run_anil | with_reducible apply run_acons | with_reducible apply run_ae | (with_reducible apply is_E (.v _); refine run_v rfl ?_) | (with_reducible apply is_Bo .add; refine bo_addI rfl ?_) | (with_reducible apply is_Bo .gt; refine bo_gtI rfl ?_) | (with_reducible apply is_Bo .mod; refine bo_mod rfl (by decide) ?_) | (with_reducible apply is_Bo .fdiv; refine bo_fdiv rfl (by decide) (by decide) ?_) | (with_reducible apply is_Bo .mul; refine bo_mul rfl (.inl (by decide)) ?_) | (with_reducible apply is_Bo .mul; refine bo_mul rfl (.inr (by decide)) ?_) | with_reducible refine .inl ⟨rfl, ?_⟩ | with_reducible refine .inr ⟨_, rfl, ?_⟩ | refine ⟨Nat.le_of_ble_eq_true rfl, ?_⟩ | with_reducible refine ⟨rfl, ?_⟩ | with_reducible refine ⟨isCont_l, ?_⟩))
    refine bo_mod rfl (by omega) ?_
    (repeat (first | with_reducible apply run_snil | (with_reducible apply is_S (.set _ _); refine run_snx (run_set ?_)) | (with_reducible apply is_S (.setL _ _ _); refine run_snx (run_setL ?_)) | (with_reducible apply is_S (.ret _); refine run_scons (run_ret ?_)) | (with_reducible apply is_S (.ite _ _ _); refine run_scons (run_ite ?_)) | with_reducible apply run_k | with_reducible apply r_bi | with_reducible apply run_nil | with_reducible apply run_cons | with_reducible apply run_anil | with_reducible apply run_acons | with_reducible apply run_ae | (with_reducible apply is_E (.v _); refine run_v rfl ?_) | (with_reducible apply is_Bo .add; refine bo_addI rfl ?_) | (with_reducible apply is_Bo .gt; refine bo_gtI rfl ?_) | (with_reducible apply is_Bo .mod; refine bo_mod rfl (by decide) ?_) | (with_reducible apply is_Bo .fdiv; refine bo_fdiv rfl (by decide) (by decide) ?_) | (with_reducible apply is_Bo .mul; refine bo_mul rfl (.inl (by decide)) ?_) | (with_reducible apply is_Bo .mul; refine bo_mul rfl (.inr (by decide)) ?_) | with_reducible refine .inl ⟨rfl, ?_⟩ | with_reducible refine .inr ⟨_, rfl, ?_⟩ | refine ⟨Nat.le_of_ble_eq_true rfl, ?_⟩ | with_reducible refine ⟨rfl, ?_⟩ | with_reducible refine ⟨isCont_l, ?_⟩))
    exact .inl ⟨_, rfl, _, rfl, (fm h1).1, (fm h1).2, u⟩
theorem s_cell {n : Nat} {m : List D} {ns : List Int} {k : Nat} (hk : k < 1000) (hl : ns.length < 1000) : RunC (call F ini W (n + 1) 1022 [.lst (ns.map .int), .int k] m) fun d m' => ∃ v, d = .int v ∧ m' = m := by
  refine run_def (r := [.v (.lst (ns.map .int)), .v (.int k)]) (hF _ _ rfl) (by intro c h; cases h) rfl rfl ?_
  dsimp only [d__law_cell_at]
  (repeat (first | with_reducible apply run_snil | (with_reducible apply is_S (.ret _); refine run_scons (run_ret ?_)) | (with_reducible apply is_S (.ite _ _ _); refine run_scons (run_ite ?_)) | with_reducible apply run_k | with_reducible apply r_bi | with_reducible apply run_nil | with_reducible apply run_cons | with_reducible apply run_anil | with_reducible apply run_acons | with_reducible apply run_ae | (with_reducible apply is_E (.v _); refine run_v rfl ?_) | (with_reducible apply is_Bo .lt; refine bo_ltI rfl ?_) | (with_reducible apply is_Bo .len; refine bo_len rfl rfl ?_) | with_reducible refine .inl ⟨rfl, ?_⟩ | with_reducible refine .inr ⟨_, rfl, ?_⟩ | refine ⟨Nat.le_of_ble_eq_true rfl, ?_⟩ | with_reducible refine ⟨rfl, ?_⟩ | with_reducible refine ⟨isCont_l, ?_⟩))
  refine ⟨_, rfl, fun hc => ?_, fun hc => ?_⟩
  · have hk2 : k < ns.length := by have := of_decide_eq_true hc; rw [List.length_map] at this; omega
    (repeat (first | with_reducible apply run_snil | (with_reducible apply is_S (.ret _); refine run_scons (run_ret ?_)) | (with_reducible apply is_S (.ite _ _ _); refine run_scons (run_ite ?_)) | with_reducible apply run_k | with_reducible apply r_bi | with_reducible apply run_nil | with_reducible apply run_cons | with_reducible apply run_anil | with_reducible apply run_acons | with_reducible apply run_ae | (with_reducible apply is_E (.v _); refine run_v rfl ?_) | (with_reducible apply is_Bo .lt; refine bo_ltI rfl ?_) | (with_reducible apply is_Bo .len; refine bo_len rfl rfl ?_) | with_reducible refine .inl ⟨rfl, ?_⟩ | with_reducible refine .inr ⟨_, rfl, ?_⟩ | refine ⟨Nat.le_of_ble_eq_true rfl, ?_⟩ | with_reducible refine ⟨rfl, ?_⟩ | with_reducible refine ⟨isCont_l, ?_⟩))
    refine bo_idx rfl rfl (by unfold small62; simp; omega) (atI_nat (by omega) (d := .int ns[k]) ?_) ?_
    · simp [hk2]
    · (repeat (first | with_reducible apply run_snil | (with_reducible apply is_S (.ret _); refine run_scons (run_ret ?_)) | (with_reducible apply is_S (.ite _ _ _); refine run_scons (run_ite ?_)) | with_reducible apply run_k | with_reducible apply r_bi | with_reducible apply run_nil | with_reducible apply run_cons | with_reducible apply run_anil | with_reducible apply run_acons | with_reducible apply run_ae | (with_reducible apply is_E (.v _); refine run_v rfl ?_) | (with_reducible apply is_Bo .lt; refine bo_ltI rfl ?_) | (with_reducible apply is_Bo .len; refine bo_len rfl rfl ?_) | with_reducible refine .inl ⟨rfl, ?_⟩ | with_reducible refine .inr ⟨_, rfl, ?_⟩ | refine ⟨Nat.le_of_ble_eq_true rfl, ?_⟩ | with_reducible refine ⟨rfl, ?_⟩ | with_reducible refine ⟨isCont_l, ?_⟩))
      exact .inl ⟨_, rfl, _, rfl, rfl⟩
  · (repeat (first | with_reducible apply run_snil | (with_reducible apply is_S (.ret _); refine run_scons (run_ret ?_)) | (with_reducible apply is_S (.ite _ _ _); refine run_scons (run_ite ?_)) | with_reducible apply run_k | with_reducible apply r_bi | with_reducible apply run_nil | with_reducible apply run_cons | with_reducible apply run_anil | with_reducible apply run_acons | with_reducible apply run_ae | (with_reducible apply is_E (.v _); refine run_v rfl ?_) | (with_reducible apply is_Bo .lt; refine bo_ltI rfl ?_) | (with_reducible apply is_Bo .len; refine bo_len rfl rfl ?_) | with_reducible refine .inl ⟨rfl, ?_⟩ | with_reducible refine .inr ⟨_, rfl, ?_⟩ | refine ⟨Nat.le_of_ble_eq_true rfl, ?_⟩ | with_reducible refine ⟨rfl, ?_⟩ | with_reducible refine ⟨isCont_l, ?_⟩))
    exact .inl ⟨_, rfl, _, rfl, rfl⟩
theorem s_source {n : Nat} {m : List D} {c : Int} : RunC (call F ini W (n + 1) 1151 [.int c] m) fun d m' => ∃ a b : Int, d = .lst [.int a, .int b, .int 0] ∧ 0 ≤ a ∧ 0 ≤ b ∧ m' = m := by
  refine run_def (r := [.v (.int c)]) (hF _ _ rfl) (by intro c h; cases h) rfl rfl ?_
  dsimp only [d__law_source_of]
  (repeat (first | with_reducible apply run_snil | (with_reducible apply is_S (.set _ _); refine run_snx (run_set ?_)) | (with_reducible apply is_S (.retF _); refine run_scons (run_retF ?_)) | with_reducible apply run_k | with_reducible apply r_bi | with_reducible apply run_ife | with_reducible apply run_lst | with_reducible apply run_nil | with_reducible apply run_cons | with_reducible apply run_anil | with_reducible apply run_acons | with_reducible apply run_ae | (with_reducible apply is_E (.v _); refine run_v rfl ?_) | (with_reducible apply is_Bo .sub; refine bo_subI rfl ?_) | (with_reducible apply is_Bo .ge; refine bo_geI rfl ?_) | (with_reducible apply is_Bo .int; refine bo_intI rfl ?_) | (with_reducible apply is_Bo .int; refine bo_intB rfl ?_) | (with_reducible apply is_Bo .mod; refine bo_mod rfl (by decide) ?_) | (with_reducible apply is_Bo .mul; refine bo_mul rfl (.inl (by decide)) ?_) | (with_reducible apply is_Bo .mul; refine bo_mul rfl (.inr (by decide)) ?_) | (with_reducible apply is_Bo .pow; refine bo_pow rfl (by decide) ?_) | with_reducible refine .inl ⟨rfl, ?_⟩ | with_reducible refine .inr ⟨_, rfl, ?_⟩ | refine ⟨Nat.le_of_ble_eq_true rfl, ?_⟩ | with_reducible refine ⟨rfl, ?_⟩ | with_reducible refine ⟨isCont_l, ?_⟩))
  have key : ∀ (x : Int) (b : Bool), 0 ≤ x → 0 ≤ x * (if b = true then 1 else 0) := fun x b h => by cases b <;> simp [h]
  refine ⟨_, rfl, fun hc => ?_, fun hc => ?_⟩
  · have h0 := of_decide_eq_true hc
    (repeat (first | with_reducible apply run_snil | (with_reducible apply is_S (.set _ _); refine run_snx (run_set ?_)) | (with_reducible apply is_S (.retF _); refine run_scons (run_retF ?_)) | with_reducible apply run_k | with_reducible apply r_bi | with_reducible apply run_ife | with_reducible apply run_lst | with_reducible apply run_nil | with_reducible apply run_cons | with_reducible apply run_anil | with_reducible apply run_acons | with_reducible apply run_ae | (with_reducible apply is_E (.v _); refine run_v rfl ?_) | (with_reducible apply is_Bo .sub; refine bo_subI rfl ?_) | (with_reducible apply is_Bo .ge; refine bo_geI rfl ?_) | (with_reducible apply is_Bo .int; refine bo_intI rfl ?_) | (with_reducible apply is_Bo .int; refine bo_intB rfl ?_) | (with_reducible apply is_Bo .mod; refine bo_mod rfl (by decide) ?_) | (with_reducible apply is_Bo .mul; refine bo_mul rfl (.inl (by decide)) ?_) | (with_reducible apply is_Bo .mul; refine bo_mul rfl (.inr (by decide)) ?_) | (with_reducible apply is_Bo .pow; refine bo_pow rfl (by decide) ?_) | with_reducible refine .inl ⟨rfl, ?_⟩ | with_reducible refine .inr ⟨_, rfl, ?_⟩ | refine ⟨Nat.le_of_ble_eq_true rfl, ?_⟩ | with_reducible refine ⟨rfl, ?_⟩ | with_reducible refine ⟨isCont_l, ?_⟩))
    refine bo_mul rfl (.inr (by split <;> decide)) ?_
    (repeat (first | with_reducible apply run_snil | (with_reducible apply is_S (.set _ _); refine run_snx (run_set ?_)) | (with_reducible apply is_S (.retF _); refine run_scons (run_retF ?_)) | with_reducible apply run_k | with_reducible apply r_bi | with_reducible apply run_ife | with_reducible apply run_lst | with_reducible apply run_nil | with_reducible apply run_cons | with_reducible apply run_anil | with_reducible apply run_acons | with_reducible apply run_ae | (with_reducible apply is_E (.v _); refine run_v rfl ?_) | (with_reducible apply is_Bo .sub; refine bo_subI rfl ?_) | (with_reducible apply is_Bo .ge; refine bo_geI rfl ?_) | (with_reducible apply is_Bo .int; refine bo_intI rfl ?_) | (with_reducible apply is_Bo .int; refine bo_intB rfl ?_) | (with_reducible apply is_Bo .mod; refine bo_mod rfl (by decide) ?_) | (with_reducible apply is_Bo .mul; refine bo_mul rfl (.inl (by decide)) ?_) | (with_reducible apply is_Bo .mul; refine bo_mul rfl (.inr (by decide)) ?_) | (with_reducible apply is_Bo .pow; refine bo_pow rfl (by decide) ?_) | with_reducible refine .inl ⟨rfl, ?_⟩ | with_reducible refine .inr ⟨_, rfl, ?_⟩ | refine ⟨Nat.le_of_ble_eq_true rfl, ?_⟩ | with_reducible refine ⟨rfl, ?_⟩ | with_reducible refine ⟨isCont_l, ?_⟩))
    exact .inl ⟨_, rfl, _, _, rfl, key _ _ h0, (fm (by decide)).1, rfl⟩
  · have h0 := of_decide_eq_false hc
    (repeat (first | with_reducible apply run_snil | (with_reducible apply is_S (.set _ _); refine run_snx (run_set ?_)) | (with_reducible apply is_S (.retF _); refine run_scons (run_retF ?_)) | with_reducible apply run_k | with_reducible apply r_bi | with_reducible apply run_ife | with_reducible apply run_lst | with_reducible apply run_nil | with_reducible apply run_cons | with_reducible apply run_anil | with_reducible apply run_acons | with_reducible apply run_ae | (with_reducible apply is_E (.v _); refine run_v rfl ?_) | (with_reducible apply is_Bo .sub; refine bo_subI rfl ?_) | (with_reducible apply is_Bo .ge; refine bo_geI rfl ?_) | (with_reducible apply is_Bo .int; refine bo_intI rfl ?_) | (with_reducible apply is_Bo .int; refine bo_intB rfl ?_) | (with_reducible apply is_Bo .mod; refine bo_mod rfl (by decide) ?_) | (with_reducible apply is_Bo .mul; refine bo_mul rfl (.inl (by decide)) ?_) | (with_reducible apply is_Bo .mul; refine bo_mul rfl (.inr (by decide)) ?_) | (with_reducible apply is_Bo .pow; refine bo_pow rfl (by decide) ?_) | with_reducible refine .inl ⟨rfl, ?_⟩ | with_reducible refine .inr ⟨_, rfl, ?_⟩ | refine ⟨Nat.le_of_ble_eq_true rfl, ?_⟩ | with_reducible refine ⟨rfl, ?_⟩ | with_reducible refine ⟨isCont_l, ?_⟩))
    refine bo_mul rfl (.inr (by split <;> decide)) ?_
    (repeat (first | with_reducible apply run_snil | (with_reducible apply is_S (.set _ _); refine run_snx (run_set ?_)) | (with_reducible apply is_S (.retF _); refine run_scons (run_retF ?_)) | with_reducible apply run_k | with_reducible apply r_bi | with_reducible apply run_ife | with_reducible apply run_lst | with_reducible apply run_nil | with_reducible apply run_cons | with_reducible apply run_anil | with_reducible apply run_acons | with_reducible apply run_ae | (with_reducible apply is_E (.v _); refine run_v rfl ?_) | (with_reducible apply is_Bo .sub; refine bo_subI rfl ?_) | (with_reducible apply is_Bo .ge; refine bo_geI rfl ?_) | (with_reducible apply is_Bo .int; refine bo_intI rfl ?_) | (with_reducible apply is_Bo .int; refine bo_intB rfl ?_) | (with_reducible apply is_Bo .mod; refine bo_mod rfl (by decide) ?_) | (with_reducible apply is_Bo .mul; refine bo_mul rfl (.inl (by decide)) ?_) | (with_reducible apply is_Bo .mul; refine bo_mul rfl (.inr (by decide)) ?_) | (with_reducible apply is_Bo .pow; refine bo_pow rfl (by decide) ?_) | with_reducible refine .inl ⟨rfl, ?_⟩ | with_reducible refine .inr ⟨_, rfl, ?_⟩ | refine ⟨Nat.le_of_ble_eq_true rfl, ?_⟩ | with_reducible refine ⟨rfl, ?_⟩ | with_reducible refine ⟨isCont_l, ?_⟩))
    exact .inl ⟨_, rfl, _, _, rfl, key _ _ (by omega), (fm (by decide)).1, rfl⟩
theorem s_one {n s : Nat} {m : List D} {x : D} {xs : List D} (h : Src m s) (hx : Row x xs) (h1 : xs ≠ []) (h2 : xs.length < 1000000) : RunC (call F ini W (n + 2) 1111 [.loc s, x] m) fun d m' => d ∈ xs ∧ Up m m' s := by
  refine run_def (r := [.v (.loc s), .v x]) (hF _ _ rfl) (by intro c h; cases h) rfl rfl ?_
  dsimp only [d__law_one]
  (repeat (first | with_reducible apply run_snil | (with_reducible apply is_S (.ret _); refine run_scons (run_ret ?_)) | with_reducible apply r_bi | with_reducible apply run_nil | with_reducible apply run_cons | with_reducible apply run_anil | with_reducible apply run_acons | with_reducible apply run_ae | with_reducible apply r_call | (with_reducible apply is_E (.v _); refine run_v rfl ?_) | (with_reducible apply is_Bo .len; refine bo_len rfl rfl ?_) | with_reducible refine .inl ⟨rfl, ?_⟩ | with_reducible refine .inr ⟨_, rfl, ?_⟩ | refine ⟨Nat.le_of_ble_eq_true rfl, ?_⟩ | with_reducible refine ⟨rfl, ?_⟩ | with_reducible refine ⟨isCont_l, ?_⟩))
  refine bo_len rfl hx.seq ?_
  (repeat (first | with_reducible apply run_snil | (with_reducible apply is_S (.ret _); refine run_scons (run_ret ?_)) | with_reducible apply r_bi | with_reducible apply run_nil | with_reducible apply run_cons | with_reducible apply run_anil | with_reducible apply run_acons | with_reducible apply run_ae | with_reducible apply r_call | (with_reducible apply is_E (.v _); refine run_v rfl ?_) | (with_reducible apply is_Bo .len; refine bo_len rfl rfl ?_) | with_reducible refine .inl ⟨rfl, ?_⟩ | with_reducible refine .inr ⟨_, rfl, ?_⟩ | refine ⟨Nat.le_of_ble_eq_true rfl, ?_⟩ | with_reducible refine ⟨rfl, ?_⟩ | with_reducible refine ⟨isCont_l, ?_⟩))
  have hl : 0 < xs.length := List.length_pos_iff.mpr h1
  refine (s_next hF (n := n) h (by omega) (by omega)).imp fun d m' ⟨v, e, v0, v1, u⟩ => ?_
  subst e
  (repeat (first | with_reducible apply run_snil | (with_reducible apply is_S (.ret _); refine run_scons (run_ret ?_)) | with_reducible apply r_bi | with_reducible apply run_nil | with_reducible apply run_cons | with_reducible apply run_anil | with_reducible apply run_acons | with_reducible apply run_ae | with_reducible apply r_call | (with_reducible apply is_E (.v _); refine run_v rfl ?_) | (with_reducible apply is_Bo .len; refine bo_len rfl rfl ?_) | with_reducible refine .inl ⟨rfl, ?_⟩ | with_reducible refine .inr ⟨_, rfl, ?_⟩ | refine ⟨Nat.le_of_ble_eq_true rfl, ?_⟩ | with_reducible refine ⟨rfl, ?_⟩ | with_reducible refine ⟨isCont_l, ?_⟩))
  have hv : v.toNat < xs.length := by omega
  refine bo_idx rfl hx.seq (by unfold small62; simp; omega) (atI_nat v0 (List.getElem?_eq_getElem hv)) ?_
  (repeat (first | with_reducible apply run_snil | (with_reducible apply is_S (.ret _); refine run_scons (run_ret ?_)) | with_reducible apply r_bi | with_reducible apply run_nil | with_reducible apply run_cons | with_reducible apply run_anil | with_reducible apply run_acons | with_reducible apply run_ae | with_reducible apply r_call | (with_reducible apply is_E (.v _); refine run_v rfl ?_) | (with_reducible apply is_Bo .len; refine bo_len rfl rfl ?_) | with_reducible refine .inl ⟨rfl, ?_⟩ | with_reducible refine .inr ⟨_, rfl, ?_⟩ | refine ⟨Nat.le_of_ble_eq_true rfl, ?_⟩ | with_reducible refine ⟨rfl, ?_⟩ | with_reducible refine ⟨isCont_l, ?_⟩))
  exact .inl ⟨_, rfl, List.getElem_mem hv, u⟩
/-- all can be compared with [] -/
def Els (xs : List D) : Prop := ∀ x ∈ xs, Ok x ∧ ddep x ≤ 50
theorem s_mixed {n s : Nat} {m : List D} {x : D} {xs : List D} (h : Src m s) (hx : Row x xs) (ok : Els xs) (h2 : xs.length < W) (h3 : W ≤ 1000) : RunC (call F ini W (n + 2) 1096 [.loc s, x] m) fun d m' => ∃ ys, d = .lst ys ∧ ys.Perm xs ∧ Up m m' s := by
  refine run_def (r := [.v (.loc s), .v x, .un, .un]) (hF _ _ rfl) (by intro c h; cases h) rfl rfl ?_
  dsimp only [d__law_mixed]
  (repeat (first | with_reducible apply run_snil | (with_reducible apply is_S (.setO _ _); refine run_snx (run_setO ?_)) | (with_reducible apply is_S (.while _ _); refine run_snx (run_whileS ?_)) | (with_reducible apply is_S (.app _ _); refine run_snx (run_app rfl ?_)) | (with_reducible apply is_S (.retO _); refine run_scons (run_retO rfl rfl ?_)) | with_reducible apply r_bi | with_reducible apply run_lst | with_reducible apply run_nil | with_reducible apply run_cons | with_reducible apply run_anil | with_reducible apply run_acons | with_reducible apply run_ae | with_reducible apply r_call | (with_reducible apply is_E (.v _); refine run_v rfl ?_) | (with_reducible apply is_A (.b _); refine run_ab rfl ?_) | (with_reducible apply is_E (.popA _ _); refine run_popA rfl ?_) | (with_reducible apply is_Bo .len; refine bo_len rfl rfl ?_) | (with_reducible apply is_Bo .list; refine bo_list rfl rfl ?_) | with_reducible refine .inl ⟨rfl, ?_⟩ | with_reducible refine .inr ⟨_, rfl, ?_⟩ | refine ⟨Nat.le_of_ble_eq_true rfl, ?_⟩ | with_reducible refine ⟨rfl, ?_⟩ | with_reducible refine ⟨isCont_l, ?_⟩))
  refine bo_list rfl hx.seq ?_
  (repeat (first | with_reducible apply run_snil | (with_reducible apply is_S (.setO _ _); refine run_snx (run_setO ?_)) | (with_reducible apply is_S (.while _ _); refine run_snx (run_whileS ?_)) | (with_reducible apply is_S (.app _ _); refine run_snx (run_app rfl ?_)) | (with_reducible apply is_S (.retO _); refine run_scons (run_retO rfl rfl ?_)) | with_reducible apply r_bi | with_reducible apply run_lst | with_reducible apply run_nil | with_reducible apply run_cons | with_reducible apply run_anil | with_reducible apply run_acons | with_reducible apply run_ae | with_reducible apply r_call | (with_reducible apply is_E (.v _); refine run_v rfl ?_) | (with_reducible apply is_A (.b _); refine run_ab rfl ?_) | (with_reducible apply is_E (.popA _ _); refine run_popA rfl ?_) | (with_reducible apply is_Bo .len; refine bo_len rfl rfl ?_) | (with_reducible apply is_Bo .list; refine bo_list rfl rfl ?_) | with_reducible refine .inl ⟨rfl, ?_⟩ | with_reducible refine .inr ⟨_, rfl, ?_⟩ | refine ⟨Nat.le_of_ble_eq_true rfl, ?_⟩ | with_reducible refine ⟨rfl, ?_⟩ | with_reducible refine ⟨isCont_l, ?_⟩))
  refine run_while (fun k r m' => ∃ left found, r = [.v (.loc s), .v x, .o (.lst left), .o (.lst found)] ∧ k = left.length ∧ (found ++ left).Perm xs ∧ Up m m' s) (n0 := xs.length) ⟨xs, [], rfl, rfl, List.Perm.refl _, Up.refl h⟩ h2 ?_
  rintro k r m' ⟨left, found, rfl, rfl, pm, u⟩
  have okl : Ok (.lst left) := ok_lst (n := 50) (by omega) fun d hd => ok d (pm.mem_iff.mp (List.mem_append_right _ hd))
  (repeat (first | with_reducible apply run_snil | (with_reducible apply is_S (.setO _ _); refine run_snx (run_setO ?_)) | (with_reducible apply is_S (.while _ _); refine run_snx (run_whileS ?_)) | (with_reducible apply is_S (.app _ _); refine run_snx (run_app rfl ?_)) | (with_reducible apply is_S (.retO _); refine run_scons (run_retO rfl rfl ?_)) | with_reducible apply r_bi | with_reducible apply run_lst | with_reducible apply run_nil | with_reducible apply run_cons | with_reducible apply run_anil | with_reducible apply run_acons | with_reducible apply run_ae | with_reducible apply r_call | (with_reducible apply is_E (.v _); refine run_v rfl ?_) | (with_reducible apply is_A (.b _); refine run_ab rfl ?_) | (with_reducible apply is_E (.popA _ _); refine run_popA rfl ?_) | (with_reducible apply is_Bo .len; refine bo_len rfl rfl ?_) | (with_reducible apply is_Bo .list; refine bo_list rfl rfl ?_) | with_reducible refine .inl ⟨rfl, ?_⟩ | with_reducible refine .inr ⟨_, rfl, ?_⟩ | refine ⟨Nat.le_of_ble_eq_true rfl, ?_⟩ | with_reducible refine ⟨rfl, ?_⟩ | with_reducible refine ⟨isCont_l, ?_⟩))
  refine bo_ne rfl rfl rfl (eqD_ok okl ⟨rfl, rfl, by decide⟩) ?_
  refine ⟨_, rfl, fun hc => ?_, fun hc => ?_⟩
  · have hl : left ≠ [] := by simpa using hc
    have hp := List.length_pos_iff.mpr hl
    have hle : left.length ≤ xs.length := by rw [← pm.length_eq, List.length_append]; omega
    (repeat (first | with_reducible apply run_snil | (with_reducible apply is_S (.setO _ _); refine run_snx (run_setO ?_)) | (with_reducible apply is_S (.while _ _); refine run_snx (run_whileS ?_)) | (with_reducible apply is_S (.app _ _); refine run_snx (run_app rfl ?_)) | (with_reducible apply is_S (.retO _); refine run_scons (run_retO rfl rfl ?_)) | with_reducible apply r_bi | with_reducible apply run_lst | with_reducible apply run_nil | with_reducible apply run_cons | with_reducible apply run_anil | with_reducible apply run_acons | with_reducible apply run_ae | with_reducible apply r_call | (with_reducible apply is_E (.v _); refine run_v rfl ?_) | (with_reducible apply is_A (.b _); refine run_ab rfl ?_) | (with_reducible apply is_E (.popA _ _); refine run_popA rfl ?_) | (with_reducible apply is_Bo .len; refine bo_len rfl rfl ?_) | (with_reducible apply is_Bo .list; refine bo_list rfl rfl ?_) | with_reducible refine .inl ⟨rfl, ?_⟩ | with_reducible refine .inr ⟨_, rfl, ?_⟩ | refine ⟨Nat.le_of_ble_eq_true rfl, ?_⟩ | with_reducible refine ⟨rfl, ?_⟩ | with_reducible refine ⟨isCont_l, ?_⟩))
    refine (s_next hF (n := n) u.src (by omega) (by omega)).imp fun d m2 ⟨v, e, v0, v1, u2⟩ => ?_
    subst e
    have hv : v.toNat < left.length := by omega
    refine ⟨v, left, left[v.toNat], rfl, rfl, ⟨v0, by omega⟩, List.getElem?_eq_getElem hv, ?_⟩
    refine ⟨found, rfl, ?_, ?_⟩
    · have : found.length ≤ xs.length := by rw [← pm.length_eq, List.length_append]; omega
      omega
    (repeat (first | with_reducible apply run_snil | (with_reducible apply is_S (.setO _ _); refine run_snx (run_setO ?_)) | (with_reducible apply is_S (.while _ _); refine run_snx (run_whileS ?_)) | (with_reducible apply is_S (.app _ _); refine run_snx (run_app rfl ?_)) | (with_reducible apply is_S (.retO _); refine run_scons (run_retO rfl rfl ?_)) | with_reducible apply r_bi | with_reducible apply run_lst | with_reducible apply run_nil | with_reducible apply run_cons | with_reducible apply run_anil | with_reducible apply run_acons | with_reducible apply run_ae | with_reducible apply r_call | (with_reducible apply is_E (.v _); refine run_v rfl ?_) | (with_reducible apply is_A (.b _); refine run_ab rfl ?_) | (with_reducible apply is_E (.popA _ _); refine run_popA rfl ?_) | (with_reducible apply is_Bo .len; refine bo_len rfl rfl ?_) | (with_reducible apply is_Bo .list; refine bo_list rfl rfl ?_) | with_reducible refine .inl ⟨rfl, ?_⟩ | with_reducible refine .inr ⟨_, rfl, ?_⟩ | refine ⟨Nat.le_of_ble_eq_true rfl, ?_⟩ | with_reducible refine ⟨rfl, ?_⟩ | with_reducible refine ⟨isCont_l, ?_⟩))
    refine ⟨left.length - 1, by omega, left.eraseIdx v.toNat, found ++ [left[v.toNat]], rfl, (List.length_eraseIdx_of_lt hv).symm, ?_, u.trans u2⟩
    refine List.Perm.trans ?_ pm
    rw [List.append_assoc]
    refine List.Perm.append_left _ ?_
    exact take_out hv
  · have hl : left = [] := by simpa using hc
    subst hl
    (repeat (first | with_reducible apply run_snil | (with_reducible apply is_S (.setO _ _); refine run_snx (run_setO ?_)) | (with_reducible apply is_S (.while _ _); refine run_snx (run_whileS ?_)) | (with_reducible apply is_S (.app _ _); refine run_snx (run_app rfl ?_)) | (with_reducible apply is_S (.retO _); refine run_scons (run_retO rfl rfl ?_)) | with_reducible apply r_bi | with_reducible apply run_lst | with_reducible apply run_nil | with_reducible apply run_cons | with_reducible apply run_anil | with_reducible apply run_acons | with_reducible apply run_ae | with_reducible apply r_call | (with_reducible apply is_E (.v _); refine run_v rfl ?_) | (with_reducible apply is_A (.b _); refine run_ab rfl ?_) | (with_reducible apply is_E (.popA _ _); refine run_popA rfl ?_) | (with_reducible apply is_Bo .len; refine bo_len rfl rfl ?_) | (with_reducible apply is_Bo .list; refine bo_list rfl rfl ?_) | with_reducible refine .inl ⟨rfl, ?_⟩ | with_reducible refine .inr ⟨_, rfl, ?_⟩ | refine ⟨Nat.le_of_ble_eq_true rfl, ?_⟩ | with_reducible refine ⟨rfl, ?_⟩ | with_reducible refine ⟨isCont_l, ?_⟩))
    exact .inl ⟨_, rfl, found, rfl, by simpa using pm, u⟩
end
end P
end
section
set_option maxRecDepth 100000
namespace P
open PySem Mi
def nm8 : List D := [.str "a", .str "ab", .str "b", .str "x", .str "zzzzzzzz", .str "node", .str "k", .str "c"]
/-- a name's text -/
def isNm (t : Str) : Bool := decide (1 ≤ (t.length : Int)) && decide ((t.length : Int) ≤ 8) && t.cps.toList.all fun c => strHas "abcdefghijklmnopqrstuvwxyz" ⟨#[c]⟩
/-- a name -/
def Nm (d : D) : Prop := ∃ t, d = .str t ∧ isNm t = true
theorem Nm.ok {d : D} (h : Nm d) : Ok d ∧ ddep d = 0 := by
  obtain ⟨t, rfl, h⟩ := h
  refine ⟨ok_str ?_, rfl⟩
  unfold isNm at h
  simp only [Bool.and_eq_true, List.all_eq_true] at h
  rw [← Array.all_toList, List.all_eq_true]
  intro c hc
  have z := h.2 c hc
  unfold strHas at z
  have z : c ∈ ("abcdefghijklmnopqrstuvwxyz" : Str).cps.toList := of_decide_eq_true z
  have all : ∀ c ∈ ("abcdefghijklmnopqrstuvwxyz" : Str).cps.toList, c < 0x110000 := by decide +kernel
  exact decide_eq_true (all c z)
theorem nm8_ok : ∀ d ∈ nm8, Nm d := by
  intro d h
  unfold nm8 at h
  simp only [List.mem_cons, List.not_mem_nil, or_false] at h
  rcases h with h | h | h | h | h | h | h | h <;> (subst h; exact ⟨_, rfl, by decide +kernel⟩)
theorem nm8_nd : nm8.Nodup := by decide +kernel
/-- names: from one to eight -/
structure Vs (ns : List D) : Prop where
  nm : ∀ d ∈ ns, Nm d
  nd : ns.Nodup
  lo : 1 ≤ ns.length
  hi : ns.length ≤ 8
/-- edges between them -/
structure Es (ns es : List D) : Prop where
  ed : ∀ e ∈ es, ∃ a b, e = pr a b ∧ a ∈ ns ∧ b ∈ ns ∧ ltd a b = true
  nd : es.Nodup
  hi : es.length ≤ 18
theorem Nm.same {a b : D} (ha : Nm a) (hb : Nm b) : Mi.same a b = true := by
  obtain ⟨t, rfl, _⟩ := ha
  obtain ⟨u, rfl, _⟩ := hb
  rfl
/-- an edge: its two names -/
def Ed (e : D) : Prop := ∃ a b, e = pr a b ∧ Nm a ∧ Nm b ∧ ltd a b = true
theorem Ed.ok {e : D} (h : Ed e) : Ok e ∧ ddep e ≤ 1 := by
  obtain ⟨a, b, rfl, ha, hb, _⟩ := h
  have z : ∀ d ∈ [a, b], Ok d ∧ ddep d ≤ 0 := fun d hd => by
    simp only [List.mem_cons, List.not_mem_nil, or_false] at hd
    rcases hd with rfl | rfl
    · exact ⟨ha.ok.1, Nat.le_of_eq ha.ok.2⟩
    · exact ⟨hb.ok.1, Nat.le_of_eq hb.ok.2⟩
  exact ⟨ok_tup (by decide) z, ddep_tup z⟩
def edT : D := pr (.str "a") (.str "b")
theorem Ed.sh {e : D} (h : Ed e) : same edT e = true := by
  obtain ⟨a, b, rfl, ⟨t, rfl, _⟩, ⟨u, rfl, _⟩, _⟩ := h
  rfl
theorem Es.eds {ns es : List D} (v : Vs ns) (h : Es ns es) : ∀ e ∈ es, Ed e := fun e he => by
  obtain ⟨a, b, e1, ha, hb, l⟩ := h.ed e he
  exact ⟨a, b, e1, v.nm a ha, v.nm b hb, l⟩
/-- all pairs of names in order -/
def prs (ns : List D) (f : D → List D) : List D := ns.flatMap f
def ups (ns : List D) (a : D) : List D := ns.filterMap fun b => if ltd a b = true then some (pr a b) else none
theorem mem_ups {ns : List D} {a e : D} : e ∈ ups ns a ↔ ∃ b, b ∈ ns ∧ ltd a b = true ∧ e = pr a b := by
  unfold ups
  rw [List.mem_filterMap]
  constructor
  · rintro ⟨b, hb, h⟩
    split at h
    · rename_i l
      exact ⟨b, hb, l, (Option.some.inj h).symm⟩
    · cases h
  · rintro ⟨b, hb, l, rfl⟩
    exact ⟨b, hb, if_pos l⟩
theorem ups_nd {ns : List D} (nd : ns.Nodup) (a : D) : (ups ns a).Nodup := by
  unfold ups
  refine List.pairwise_filterMap.mpr (nd.imp fun {x y} h u hu v hv => ?_)
  split at hu <;> cases hu
  split at hv <;> cases hv
  intro e
  injection e with e
  injection e with _ e
  injection e with e
  exact h e
theorem all_nd {ns : List D} (nd : ns.Nodup) : (ns.flatMap (ups ns)).Nodup := by
  refine List.pairwise_flatMap.mpr ⟨fun a _ => ups_nd nd a, nd.imp fun {a b} h u hu v hv e => ?_⟩
  obtain ⟨x, _, _, rfl⟩ := mem_ups.mp hu
  obtain ⟨y, _, _, rfl⟩ := mem_ups.mp hv
  injection e with e
  injection e with e
  exact h e
theorem len_fm {α β : Type} {f : α → Option β} : ∀ {l : List α}, (l.filterMap f).length ≤ l.length
  | [] => Nat.le_refl _
  | x :: l => by
    rw [List.filterMap_cons]
    have ih := len_fm (f := f) (l := l)
    split
    · simp; omega
    · simp; omega
theorem len_flat {f : D → List D} {k : Nat} : ∀ {l : List D}, (∀ a ∈ l, (f a).length ≤ k) → (l.flatMap f).length ≤ l.length * k
  | [], _ => by simp
  | x :: l, h => by
    have ih := len_flat (f := f) (k := k) (l := l) fun a ha => h a (List.mem_cons_of_mem _ ha)
    have z := h x List.mem_cons_self
    rw [List.flatMap_cons, List.length_append, List.length_cons, Nat.succ_mul]
    omega
section
variable {F : Nat → Option Fn} {ini : Str → Option Nat} {W : Nat} (hF : ∀ f d, FB f = some d → F f = some d)
include hF
theorem s_graph {n s : Nat} {m : List D} {most : Int} (h : Src m s) (m1 : 1 ≤ most) (m2 : most ≤ 8) (hW : 100 < W) (hW2 : W ≤ 1000) : RunC (call F ini W (n + 3) 1068 [.loc s, .int most] m) fun d m' => ∃ ns es, d = pr (.lst ns) (.lst es) ∧ (Vs ns ∧ (ns.length : Int) ≤ most) ∧ Es ns es ∧ Up m m' s := by
  refine run_def (r := [.v (.loc s), .v (.int most), .un, .un, .un, .un, .un]) (hF _ _ rfl) (by intro c h; cases h) rfl rfl ?_
  dsimp only [d__law_graph]
  (repeat (first | with_reducible apply run_snil | (with_reducible apply is_S (.set _ _); refine run_snx (run_set ?_)) | (with_reducible apply is_S (.setO _ _); refine run_snx (run_setO ?_)) | (with_reducible apply is_S (.fr _ (.setO _ _)); refine run_snx (run_fr (run_setO ?_))) | (with_reducible apply is_S (.fr _ (.set _ _)); refine run_snx (run_fr (run_set ?_))) | (with_reducible apply is_S (.ext _ _); refine run_snx (run_ext rfl ?_)) | (with_reducible apply is_S (.ret _); refine run_scons (run_ret ?_)) | with_reducible apply run_k | with_reducible apply r_bi | with_reducible apply run_and_nil | with_reducible apply run_and_cons | with_reducible apply run_tup | with_reducible apply run_lst | with_reducible apply run_nil | with_reducible apply run_cons | with_reducible apply run_anil | with_reducible apply run_acons | with_reducible apply run_ae | with_reducible apply r_call | with_reducible apply run_s01 | with_reducible apply run_seq | with_reducible apply run_lcF | (with_reducible apply is_E (.v _); refine run_v rfl ?_) | (with_reducible apply is_A (.b _); refine run_ab rfl ?_) | (with_reducible apply is_Bo .add; refine bo_addI rfl ?_) | (with_reducible apply is_Bo .lt; refine bo_ltI rfl ?_) | (with_reducible apply is_Bo .min2; refine bo_min2 rfl ?_) | (with_reducible apply is_Bo .mul; refine bo_mul rfl (.inl (by decide)) ?_) | (with_reducible apply is_Bo .mul; refine bo_mul rfl (.inr (by decide)) ?_) | (with_reducible apply is_Bo .len; refine bo_len rfl rfl ?_) | with_reducible refine .inl ⟨rfl, ?_⟩ | with_reducible refine .inr ⟨_, rfl, ?_⟩ | refine ⟨Nat.le_of_ble_eq_true rfl, ?_⟩ | with_reducible refine ⟨rfl, ?_⟩ | with_reducible refine ⟨isCont_l, ?_⟩))
  refine (s_mixed hF (n := n) h (.l nm8) (fun x hx => ⟨(nm8_ok x hx).ok.1, by rw [(nm8_ok x hx).ok.2]; omega⟩) (show nm8.length < W by have : nm8.length = 8 := rfl; omega) hW2).imp fun d mA ⟨ys, e, py, uA⟩ => ?_
  subst e
  (repeat (first | with_reducible apply run_snil | (with_reducible apply is_S (.set _ _); refine run_snx (run_set ?_)) | (with_reducible apply is_S (.setO _ _); refine run_snx (run_setO ?_)) | (with_reducible apply is_S (.fr _ (.setO _ _)); refine run_snx (run_fr (run_setO ?_))) | (with_reducible apply is_S (.fr _ (.set _ _)); refine run_snx (run_fr (run_set ?_))) | (with_reducible apply is_S (.ext _ _); refine run_snx (run_ext rfl ?_)) | (with_reducible apply is_S (.ret _); refine run_scons (run_ret ?_)) | with_reducible apply run_k | with_reducible apply r_bi | with_reducible apply run_and_nil | with_reducible apply run_and_cons | with_reducible apply run_tup | with_reducible apply run_lst | with_reducible apply run_nil | with_reducible apply run_cons | with_reducible apply run_anil | with_reducible apply run_acons | with_reducible apply run_ae | with_reducible apply r_call | with_reducible apply run_s01 | with_reducible apply run_seq | with_reducible apply run_lcF | (with_reducible apply is_E (.v _); refine run_v rfl ?_) | (with_reducible apply is_A (.b _); refine run_ab rfl ?_) | (with_reducible apply is_Bo .add; refine bo_addI rfl ?_) | (with_reducible apply is_Bo .lt; refine bo_ltI rfl ?_) | (with_reducible apply is_Bo .min2; refine bo_min2 rfl ?_) | (with_reducible apply is_Bo .mul; refine bo_mul rfl (.inl (by decide)) ?_) | (with_reducible apply is_Bo .mul; refine bo_mul rfl (.inr (by decide)) ?_) | (with_reducible apply is_Bo .len; refine bo_len rfl rfl ?_) | with_reducible refine .inl ⟨rfl, ?_⟩ | with_reducible refine .inr ⟨_, rfl, ?_⟩ | refine ⟨Nat.le_of_ble_eq_true rfl, ?_⟩ | with_reducible refine ⟨rfl, ?_⟩ | with_reducible refine ⟨isCont_l, ?_⟩))
  refine (s_next hF (n := n + 1) uA.src (by omega) (by omega)).imp fun d mB ⟨v, e, v0, v1, uB⟩ => ?_
  subst e
  (repeat (first | with_reducible apply run_snil | (with_reducible apply is_S (.set _ _); refine run_snx (run_set ?_)) | (with_reducible apply is_S (.setO _ _); refine run_snx (run_setO ?_)) | (with_reducible apply is_S (.fr _ (.setO _ _)); refine run_snx (run_fr (run_setO ?_))) | (with_reducible apply is_S (.fr _ (.set _ _)); refine run_snx (run_fr (run_set ?_))) | (with_reducible apply is_S (.ext _ _); refine run_snx (run_ext rfl ?_)) | (with_reducible apply is_S (.ret _); refine run_scons (run_ret ?_)) | with_reducible apply run_k | with_reducible apply r_bi | with_reducible apply run_and_nil | with_reducible apply run_and_cons | with_reducible apply run_tup | with_reducible apply run_lst | with_reducible apply run_nil | with_reducible apply run_cons | with_reducible apply run_anil | with_reducible apply run_acons | with_reducible apply run_ae | with_reducible apply r_call | with_reducible apply run_s01 | with_reducible apply run_seq | with_reducible apply run_lcF | (with_reducible apply is_E (.v _); refine run_v rfl ?_) | (with_reducible apply is_A (.b _); refine run_ab rfl ?_) | (with_reducible apply is_Bo .add; refine bo_addI rfl ?_) | (with_reducible apply is_Bo .lt; refine bo_ltI rfl ?_) | (with_reducible apply is_Bo .min2; refine bo_min2 rfl ?_) | (with_reducible apply is_Bo .mul; refine bo_mul rfl (.inl (by decide)) ?_) | (with_reducible apply is_Bo .mul; refine bo_mul rfl (.inr (by decide)) ?_) | (with_reducible apply is_Bo .len; refine bo_len rfl rfl ?_) | with_reducible refine .inl ⟨rfl, ?_⟩ | with_reducible refine .inr ⟨_, rfl, ?_⟩ | refine ⟨Nat.le_of_ble_eq_true rfl, ?_⟩ | with_reducible refine ⟨rfl, ?_⟩ | with_reducible refine ⟨isCont_l, ?_⟩))
  refine ⟨_, _, rfl, sl_to rfl (by omega), ?_⟩
  obtain ⟨ns, hns⟩ : ∃ ns, ys.take (1 + v).toNat = ns := ⟨_, rfl⟩
  rw [hns]
  have ly : ys.length = 8 := py.length_eq
  have vs : Vs ns := by
    subst hns
    refine ⟨fun d hd => nm8_ok d (py.mem_iff.mp (List.mem_of_mem_take hd)), (py.nodup_iff.mpr nm8_nd).sublist (List.take_sublist _ _), ?_, ?_⟩ <;> (rw [List.length_take]; omega)
  have ln : (ns.length : Int) ≤ most := by
    rw [← hns, List.length_take]
    omega
  have oks : ∀ d ∈ ns, Ok d ∧ ddep d ≤ 0 := fun d hd => ⟨(vs.nm d hd).ok.1, Nat.le_of_eq (vs.nm d hd).ok.2⟩
  have ok2 : ∀ e ∈ ns.flatMap (ups ns), Ed e := fun e he => by
    obtain ⟨a, ha, he⟩ := List.mem_flatMap.mp he
    obtain ⟨b, hb, l, rfl⟩ := mem_ups.mp he
    exact ⟨a, b, rfl, vs.nm a ha, vs.nm b hb, l⟩
  have ll : (ns.flatMap (ups ns)).length ≤ 64 := by
    have z := len_flat (f := ups ns) (k := 8) (l := ns) fun a _ => Nat.le_trans len_fm vs.hi
    have := vs.hi
    omega
  (repeat (first | with_reducible apply run_snil | (with_reducible apply is_S (.set _ _); refine run_snx (run_set ?_)) | (with_reducible apply is_S (.setO _ _); refine run_snx (run_setO ?_)) | (with_reducible apply is_S (.fr _ (.setO _ _)); refine run_snx (run_fr (run_setO ?_))) | (with_reducible apply is_S (.fr _ (.set _ _)); refine run_snx (run_fr (run_set ?_))) | (with_reducible apply is_S (.ext _ _); refine run_snx (run_ext rfl ?_)) | (with_reducible apply is_S (.ret _); refine run_scons (run_ret ?_)) | with_reducible apply run_k | with_reducible apply r_bi | with_reducible apply run_and_nil | with_reducible apply run_and_cons | with_reducible apply run_tup | with_reducible apply run_lst | with_reducible apply run_nil | with_reducible apply run_cons | with_reducible apply run_anil | with_reducible apply run_acons | with_reducible apply run_ae | with_reducible apply r_call | with_reducible apply run_s01 | with_reducible apply run_seq | with_reducible apply run_lcF | (with_reducible apply is_E (.v _); refine run_v rfl ?_) | (with_reducible apply is_A (.b _); refine run_ab rfl ?_) | (with_reducible apply is_Bo .add; refine bo_addI rfl ?_) | (with_reducible apply is_Bo .lt; refine bo_ltI rfl ?_) | (with_reducible apply is_Bo .min2; refine bo_min2 rfl ?_) | (with_reducible apply is_Bo .mul; refine bo_mul rfl (.inl (by decide)) ?_) | (with_reducible apply is_Bo .mul; refine bo_mul rfl (.inr (by decide)) ?_) | (with_reducible apply is_Bo .len; refine bo_len rfl rfl ?_) | with_reducible refine .inl ⟨rfl, ?_⟩ | with_reducible refine .inr ⟨_, rfl, ?_⟩ | refine ⟨Nat.le_of_ble_eq_true rfl, ?_⟩ | with_reducible refine ⟨rfl, ?_⟩ | with_reducible refine ⟨isCont_l, ?_⟩))
  refine run_snx (run_for ?_)
  (repeat (first | with_reducible apply run_snil | (with_reducible apply is_S (.set _ _); refine run_snx (run_set ?_)) | (with_reducible apply is_S (.setO _ _); refine run_snx (run_setO ?_)) | (with_reducible apply is_S (.fr _ (.setO _ _)); refine run_snx (run_fr (run_setO ?_))) | (with_reducible apply is_S (.fr _ (.set _ _)); refine run_snx (run_fr (run_set ?_))) | (with_reducible apply is_S (.ext _ _); refine run_snx (run_ext rfl ?_)) | (with_reducible apply is_S (.ret _); refine run_scons (run_ret ?_)) | with_reducible apply run_k | with_reducible apply r_bi | with_reducible apply run_and_nil | with_reducible apply run_and_cons | with_reducible apply run_tup | with_reducible apply run_lst | with_reducible apply run_nil | with_reducible apply run_cons | with_reducible apply run_anil | with_reducible apply run_acons | with_reducible apply run_ae | with_reducible apply r_call | with_reducible apply run_s01 | with_reducible apply run_seq | with_reducible apply run_lcF | (with_reducible apply is_E (.v _); refine run_v rfl ?_) | (with_reducible apply is_A (.b _); refine run_ab rfl ?_) | (with_reducible apply is_Bo .add; refine bo_addI rfl ?_) | (with_reducible apply is_Bo .lt; refine bo_ltI rfl ?_) | (with_reducible apply is_Bo .min2; refine bo_min2 rfl ?_) | (with_reducible apply is_Bo .mul; refine bo_mul rfl (.inl (by decide)) ?_) | (with_reducible apply is_Bo .mul; refine bo_mul rfl (.inr (by decide)) ?_) | (with_reducible apply is_Bo .len; refine bo_len rfl rfl ?_) | with_reducible refine .inl ⟨rfl, ?_⟩ | with_reducible refine .inr ⟨_, rfl, ?_⟩ | refine ⟨Nat.le_of_ble_eq_true rfl, ?_⟩ | with_reducible refine ⟨rfl, ?_⟩ | with_reducible refine ⟨isCont_l, ?_⟩))
  refine ⟨_, rfl, ?_⟩
  refine run_loopN (fun k r m' => ∃ x4, r = [.v (.loc s), .v (.int most), .v (.lst ns), .o (.lst ((ns.take k).flatMap (ups ns))), x4, .un, .un] ∧ nO x4 ∧ m' = mB) ⟨.un, rfl, nO_un, rfl⟩ ?_ ?_
  · rintro k x r m' hk ⟨x4, rfl, n4, rfl⟩
    have hx := List.mem_of_getElem? hk
    refine ⟨_, asg rfl n4, ?_⟩
    (repeat (first | with_reducible apply run_snil | (with_reducible apply is_S (.set _ _); refine run_snx (run_set ?_)) | (with_reducible apply is_S (.setO _ _); refine run_snx (run_setO ?_)) | (with_reducible apply is_S (.fr _ (.setO _ _)); refine run_snx (run_fr (run_setO ?_))) | (with_reducible apply is_S (.fr _ (.set _ _)); refine run_snx (run_fr (run_set ?_))) | (with_reducible apply is_S (.ext _ _); refine run_snx (run_ext rfl ?_)) | (with_reducible apply is_S (.ret _); refine run_scons (run_ret ?_)) | with_reducible apply run_k | with_reducible apply r_bi | with_reducible apply run_and_nil | with_reducible apply run_and_cons | with_reducible apply run_tup | with_reducible apply run_lst | with_reducible apply run_nil | with_reducible apply run_cons | with_reducible apply run_anil | with_reducible apply run_acons | with_reducible apply run_ae | with_reducible apply r_call | with_reducible apply run_s01 | with_reducible apply run_seq | with_reducible apply run_lcF | (with_reducible apply is_E (.v _); refine run_v rfl ?_) | (with_reducible apply is_A (.b _); refine run_ab rfl ?_) | (with_reducible apply is_Bo .add; refine bo_addI rfl ?_) | (with_reducible apply is_Bo .lt; refine bo_ltI rfl ?_) | (with_reducible apply is_Bo .min2; refine bo_min2 rfl ?_) | (with_reducible apply is_Bo .mul; refine bo_mul rfl (.inl (by decide)) ?_) | (with_reducible apply is_Bo .mul; refine bo_mul rfl (.inr (by decide)) ?_) | (with_reducible apply is_Bo .len; refine bo_len rfl rfl ?_) | with_reducible refine .inl ⟨rfl, ?_⟩ | with_reducible refine .inr ⟨_, rfl, ?_⟩ | refine ⟨Nat.le_of_ble_eq_true rfl, ?_⟩ | with_reducible refine ⟨rfl, ?_⟩ | with_reducible refine ⟨isCont_l, ?_⟩))
    refine r_lc ?_
    (repeat (first | with_reducible apply run_snil | (with_reducible apply is_S (.set _ _); refine run_snx (run_set ?_)) | (with_reducible apply is_S (.setO _ _); refine run_snx (run_setO ?_)) | (with_reducible apply is_S (.fr _ (.setO _ _)); refine run_snx (run_fr (run_setO ?_))) | (with_reducible apply is_S (.fr _ (.set _ _)); refine run_snx (run_fr (run_set ?_))) | (with_reducible apply is_S (.ext _ _); refine run_snx (run_ext rfl ?_)) | (with_reducible apply is_S (.ret _); refine run_scons (run_ret ?_)) | with_reducible apply run_k | with_reducible apply r_bi | with_reducible apply run_and_nil | with_reducible apply run_and_cons | with_reducible apply run_tup | with_reducible apply run_lst | with_reducible apply run_nil | with_reducible apply run_cons | with_reducible apply run_anil | with_reducible apply run_acons | with_reducible apply run_ae | with_reducible apply r_call | with_reducible apply run_s01 | with_reducible apply run_seq | with_reducible apply run_lcF | (with_reducible apply is_E (.v _); refine run_v rfl ?_) | (with_reducible apply is_A (.b _); refine run_ab rfl ?_) | (with_reducible apply is_Bo .add; refine bo_addI rfl ?_) | (with_reducible apply is_Bo .lt; refine bo_ltI rfl ?_) | (with_reducible apply is_Bo .min2; refine bo_min2 rfl ?_) | (with_reducible apply is_Bo .mul; refine bo_mul rfl (.inl (by decide)) ?_) | (with_reducible apply is_Bo .mul; refine bo_mul rfl (.inr (by decide)) ?_) | (with_reducible apply is_Bo .len; refine bo_len rfl rfl ?_) | with_reducible refine .inl ⟨rfl, ?_⟩ | with_reducible refine .inr ⟨_, rfl, ?_⟩ | refine ⟨Nat.le_of_ble_eq_true rfl, ?_⟩ | with_reducible refine ⟨rfl, ?_⟩ | with_reducible refine ⟨isCont_l, ?_⟩))
    refine ⟨_, rfl, rfl, by have := vs.hi; omega, fun b => if ltd x b = true then some (pr x b) else none, fun b hb => ⟨_, rfl, ?_⟩, ?_⟩
    · (repeat (first | with_reducible apply run_snil | (with_reducible apply is_S (.set _ _); refine run_snx (run_set ?_)) | (with_reducible apply is_S (.setO _ _); refine run_snx (run_setO ?_)) | (with_reducible apply is_S (.fr _ (.setO _ _)); refine run_snx (run_fr (run_setO ?_))) | (with_reducible apply is_S (.fr _ (.set _ _)); refine run_snx (run_fr (run_set ?_))) | (with_reducible apply is_S (.ext _ _); refine run_snx (run_ext rfl ?_)) | (with_reducible apply is_S (.ret _); refine run_scons (run_ret ?_)) | with_reducible apply run_k | with_reducible apply r_bi | with_reducible apply run_and_nil | with_reducible apply run_and_cons | with_reducible apply run_tup | with_reducible apply run_lst | with_reducible apply run_nil | with_reducible apply run_cons | with_reducible apply run_anil | with_reducible apply run_acons | with_reducible apply run_ae | with_reducible apply r_call | with_reducible apply run_s01 | with_reducible apply run_seq | with_reducible apply run_lcF | (with_reducible apply is_E (.v _); refine run_v rfl ?_) | (with_reducible apply is_A (.b _); refine run_ab rfl ?_) | (with_reducible apply is_Bo .add; refine bo_addI rfl ?_) | (with_reducible apply is_Bo .lt; refine bo_ltI rfl ?_) | (with_reducible apply is_Bo .min2; refine bo_min2 rfl ?_) | (with_reducible apply is_Bo .mul; refine bo_mul rfl (.inl (by decide)) ?_) | (with_reducible apply is_Bo .mul; refine bo_mul rfl (.inr (by decide)) ?_) | (with_reducible apply is_Bo .len; refine bo_len rfl rfl ?_) | with_reducible refine .inl ⟨rfl, ?_⟩ | with_reducible refine .inr ⟨_, rfl, ?_⟩ | refine ⟨Nat.le_of_ble_eq_true rfl, ?_⟩ | with_reducible refine ⟨rfl, ?_⟩ | with_reducible refine ⟨isCont_l, ?_⟩))
      refine bo_lt rfl (ltD_ok (Nm.same (vs.nm x hx) (vs.nm b hb)) (oks x hx).1 (oks b hb).1) ?_
      refine ⟨_, rfl, fun hc => ?_, fun hc => ?_⟩
      · (repeat (first | with_reducible apply run_snil | (with_reducible apply is_S (.set _ _); refine run_snx (run_set ?_)) | (with_reducible apply is_S (.setO _ _); refine run_snx (run_setO ?_)) | (with_reducible apply is_S (.fr _ (.setO _ _)); refine run_snx (run_fr (run_setO ?_))) | (with_reducible apply is_S (.fr _ (.set _ _)); refine run_snx (run_fr (run_set ?_))) | (with_reducible apply is_S (.ext _ _); refine run_snx (run_ext rfl ?_)) | (with_reducible apply is_S (.ret _); refine run_scons (run_ret ?_)) | with_reducible apply run_k | with_reducible apply r_bi | with_reducible apply run_and_nil | with_reducible apply run_and_cons | with_reducible apply run_tup | with_reducible apply run_lst | with_reducible apply run_nil | with_reducible apply run_cons | with_reducible apply run_anil | with_reducible apply run_acons | with_reducible apply run_ae | with_reducible apply r_call | with_reducible apply run_s01 | with_reducible apply run_seq | with_reducible apply run_lcF | (with_reducible apply is_E (.v _); refine run_v rfl ?_) | (with_reducible apply is_A (.b _); refine run_ab rfl ?_) | (with_reducible apply is_Bo .add; refine bo_addI rfl ?_) | (with_reducible apply is_Bo .lt; refine bo_ltI rfl ?_) | (with_reducible apply is_Bo .min2; refine bo_min2 rfl ?_) | (with_reducible apply is_Bo .mul; refine bo_mul rfl (.inl (by decide)) ?_) | (with_reducible apply is_Bo .mul; refine bo_mul rfl (.inr (by decide)) ?_) | (with_reducible apply is_Bo .len; refine bo_len rfl rfl ?_) | with_reducible refine .inl ⟨rfl, ?_⟩ | with_reducible refine .inr ⟨_, rfl, ?_⟩ | refine ⟨Nat.le_of_ble_eq_true rfl, ?_⟩ | with_reducible refine ⟨rfl, ?_⟩ | with_reducible refine ⟨isCont_l, ?_⟩))
        refine ⟨fun _ => ?_, fun z => nomatch z⟩
        (repeat (first | with_reducible apply run_snil | (with_reducible apply is_S (.set _ _); refine run_snx (run_set ?_)) | (with_reducible apply is_S (.setO _ _); refine run_snx (run_setO ?_)) | (with_reducible apply is_S (.fr _ (.setO _ _)); refine run_snx (run_fr (run_setO ?_))) | (with_reducible apply is_S (.fr _ (.set _ _)); refine run_snx (run_fr (run_set ?_))) | (with_reducible apply is_S (.ext _ _); refine run_snx (run_ext rfl ?_)) | (with_reducible apply is_S (.ret _); refine run_scons (run_ret ?_)) | with_reducible apply run_k | with_reducible apply r_bi | with_reducible apply run_and_nil | with_reducible apply run_and_cons | with_reducible apply run_tup | with_reducible apply run_lst | with_reducible apply run_nil | with_reducible apply run_cons | with_reducible apply run_anil | with_reducible apply run_acons | with_reducible apply run_ae | with_reducible apply r_call | with_reducible apply run_s01 | with_reducible apply run_seq | with_reducible apply run_lcF | (with_reducible apply is_E (.v _); refine run_v rfl ?_) | (with_reducible apply is_A (.b _); refine run_ab rfl ?_) | (with_reducible apply is_Bo .add; refine bo_addI rfl ?_) | (with_reducible apply is_Bo .lt; refine bo_ltI rfl ?_) | (with_reducible apply is_Bo .min2; refine bo_min2 rfl ?_) | (with_reducible apply is_Bo .mul; refine bo_mul rfl (.inl (by decide)) ?_) | (with_reducible apply is_Bo .mul; refine bo_mul rfl (.inr (by decide)) ?_) | (with_reducible apply is_Bo .len; refine bo_len rfl rfl ?_) | with_reducible refine .inl ⟨rfl, ?_⟩ | with_reducible refine .inr ⟨_, rfl, ?_⟩ | refine ⟨Nat.le_of_ble_eq_true rfl, ?_⟩ | with_reducible refine ⟨rfl, ?_⟩ | with_reducible refine ⟨isCont_l, ?_⟩))
        exact ⟨(if_pos hc).symm, rfl, rfl⟩
      · (repeat (first | with_reducible apply run_snil | (with_reducible apply is_S (.set _ _); refine run_snx (run_set ?_)) | (with_reducible apply is_S (.setO _ _); refine run_snx (run_setO ?_)) | (with_reducible apply is_S (.fr _ (.setO _ _)); refine run_snx (run_fr (run_setO ?_))) | (with_reducible apply is_S (.fr _ (.set _ _)); refine run_snx (run_fr (run_set ?_))) | (with_reducible apply is_S (.ext _ _); refine run_snx (run_ext rfl ?_)) | (with_reducible apply is_S (.ret _); refine run_scons (run_ret ?_)) | with_reducible apply run_k | with_reducible apply r_bi | with_reducible apply run_and_nil | with_reducible apply run_and_cons | with_reducible apply run_tup | with_reducible apply run_lst | with_reducible apply run_nil | with_reducible apply run_cons | with_reducible apply run_anil | with_reducible apply run_acons | with_reducible apply run_ae | with_reducible apply r_call | with_reducible apply run_s01 | with_reducible apply run_seq | with_reducible apply run_lcF | (with_reducible apply is_E (.v _); refine run_v rfl ?_) | (with_reducible apply is_A (.b _); refine run_ab rfl ?_) | (with_reducible apply is_Bo .add; refine bo_addI rfl ?_) | (with_reducible apply is_Bo .lt; refine bo_ltI rfl ?_) | (with_reducible apply is_Bo .min2; refine bo_min2 rfl ?_) | (with_reducible apply is_Bo .mul; refine bo_mul rfl (.inl (by decide)) ?_) | (with_reducible apply is_Bo .mul; refine bo_mul rfl (.inr (by decide)) ?_) | (with_reducible apply is_Bo .len; refine bo_len rfl rfl ?_) | with_reducible refine .inl ⟨rfl, ?_⟩ | with_reducible refine .inr ⟨_, rfl, ?_⟩ | refine ⟨Nat.le_of_ble_eq_true rfl, ?_⟩ | with_reducible refine ⟨rfl, ?_⟩ | with_reducible refine ⟨isCont_l, ?_⟩))
        exact ⟨(fun z => nomatch z), fun _ => ⟨(if_neg (by rw [hc]; decide)).symm, rfl, rfl⟩⟩
    · refine ⟨_, _, rfl, rfl, ?_, ?_⟩
      · have z1 := len_fm (f := fun b => if ltd x b = true then some (pr x b) else none) (l := ns)
        have z2 := len_flat (f := ups ns) (k := 8) (l := ns.take k) fun a _ => Nat.le_trans len_fm vs.hi
        have := vs.hi
        have z3 : (ns.take k).length ≤ 8 := by rw [List.length_take]; omega
        omega
      · (repeat (first | with_reducible apply run_snil | (with_reducible apply is_S (.set _ _); refine run_snx (run_set ?_)) | (with_reducible apply is_S (.setO _ _); refine run_snx (run_setO ?_)) | (with_reducible apply is_S (.fr _ (.setO _ _)); refine run_snx (run_fr (run_setO ?_))) | (with_reducible apply is_S (.fr _ (.set _ _)); refine run_snx (run_fr (run_set ?_))) | (with_reducible apply is_S (.ext _ _); refine run_snx (run_ext rfl ?_)) | (with_reducible apply is_S (.ret _); refine run_scons (run_ret ?_)) | with_reducible apply run_k | with_reducible apply r_bi | with_reducible apply run_and_nil | with_reducible apply run_and_cons | with_reducible apply run_tup | with_reducible apply run_lst | with_reducible apply run_nil | with_reducible apply run_cons | with_reducible apply run_anil | with_reducible apply run_acons | with_reducible apply run_ae | with_reducible apply r_call | with_reducible apply run_s01 | with_reducible apply run_seq | with_reducible apply run_lcF | (with_reducible apply is_E (.v _); refine run_v rfl ?_) | (with_reducible apply is_A (.b _); refine run_ab rfl ?_) | (with_reducible apply is_Bo .add; refine bo_addI rfl ?_) | (with_reducible apply is_Bo .lt; refine bo_ltI rfl ?_) | (with_reducible apply is_Bo .min2; refine bo_min2 rfl ?_) | (with_reducible apply is_Bo .mul; refine bo_mul rfl (.inl (by decide)) ?_) | (with_reducible apply is_Bo .mul; refine bo_mul rfl (.inr (by decide)) ?_) | (with_reducible apply is_Bo .len; refine bo_len rfl rfl ?_) | with_reducible refine .inl ⟨rfl, ?_⟩ | with_reducible refine .inr ⟨_, rfl, ?_⟩ | refine ⟨Nat.le_of_ble_eq_true rfl, ?_⟩ | with_reducible refine ⟨rfl, ?_⟩ | with_reducible refine ⟨isCont_l, ?_⟩))
        refine ⟨_, ?_, nO_v x, rfl⟩
        rw [List.take_add_one, hk, List.flatMap_append]
        simp [ups]
  · rintro r m' ⟨x4, rfl, n4, rfl⟩
    rw [List.take_length]
    (repeat (first | with_reducible apply run_snil | (with_reducible apply is_S (.set _ _); refine run_snx (run_set ?_)) | (with_reducible apply is_S (.setO _ _); refine run_snx (run_setO ?_)) | (with_reducible apply is_S (.fr _ (.setO _ _)); refine run_snx (run_fr (run_setO ?_))) | (with_reducible apply is_S (.fr _ (.set _ _)); refine run_snx (run_fr (run_set ?_))) | (with_reducible apply is_S (.ext _ _); refine run_snx (run_ext rfl ?_)) | (with_reducible apply is_S (.ret _); refine run_scons (run_ret ?_)) | with_reducible apply run_k | with_reducible apply r_bi | with_reducible apply run_and_nil | with_reducible apply run_and_cons | with_reducible apply run_tup | with_reducible apply run_lst | with_reducible apply run_nil | with_reducible apply run_cons | with_reducible apply run_anil | with_reducible apply run_acons | with_reducible apply run_ae | with_reducible apply r_call | with_reducible apply run_s01 | with_reducible apply run_seq | with_reducible apply run_lcF | (with_reducible apply is_E (.v _); refine run_v rfl ?_) | (with_reducible apply is_A (.b _); refine run_ab rfl ?_) | (with_reducible apply is_Bo .add; refine bo_addI rfl ?_) | (with_reducible apply is_Bo .lt; refine bo_ltI rfl ?_) | (with_reducible apply is_Bo .min2; refine bo_min2 rfl ?_) | (with_reducible apply is_Bo .mul; refine bo_mul rfl (.inl (by decide)) ?_) | (with_reducible apply is_Bo .mul; refine bo_mul rfl (.inr (by decide)) ?_) | (with_reducible apply is_Bo .len; refine bo_len rfl rfl ?_) | with_reducible refine .inl ⟨rfl, ?_⟩ | with_reducible refine .inr ⟨_, rfl, ?_⟩ | refine ⟨Nat.le_of_ble_eq_true rfl, ?_⟩ | with_reducible refine ⟨rfl, ?_⟩ | with_reducible refine ⟨isCont_l, ?_⟩))
    refine (s_mixed hF (n := n) uB.src (.l (ns.flatMap (ups ns))) (fun e he => ⟨(ok2 e he).ok.1, by have := (ok2 e he).ok.2; omega⟩) (by omega) hW2).imp fun d mC ⟨es, e, pe, uC⟩ => ?_
    subst e
    have le : es.length ≤ 64 := by rw [pe.length_eq]; exact ll
    (repeat (first | with_reducible apply run_snil | (with_reducible apply is_S (.set _ _); refine run_snx (run_set ?_)) | (with_reducible apply is_S (.setO _ _); refine run_snx (run_setO ?_)) | (with_reducible apply is_S (.fr _ (.setO _ _)); refine run_snx (run_fr (run_setO ?_))) | (with_reducible apply is_S (.fr _ (.set _ _)); refine run_snx (run_fr (run_set ?_))) | (with_reducible apply is_S (.ext _ _); refine run_snx (run_ext rfl ?_)) | (with_reducible apply is_S (.ret _); refine run_scons (run_ret ?_)) | with_reducible apply run_k | with_reducible apply r_bi | with_reducible apply run_and_nil | with_reducible apply run_and_cons | with_reducible apply run_tup | with_reducible apply run_lst | with_reducible apply run_nil | with_reducible apply run_cons | with_reducible apply run_anil | with_reducible apply run_acons | with_reducible apply run_ae | with_reducible apply r_call | with_reducible apply run_s01 | with_reducible apply run_seq | with_reducible apply run_lcF | (with_reducible apply is_E (.v _); refine run_v rfl ?_) | (with_reducible apply is_A (.b _); refine run_ab rfl ?_) | (with_reducible apply is_Bo .add; refine bo_addI rfl ?_) | (with_reducible apply is_Bo .lt; refine bo_ltI rfl ?_) | (with_reducible apply is_Bo .min2; refine bo_min2 rfl ?_) | (with_reducible apply is_Bo .mul; refine bo_mul rfl (.inl (by decide)) ?_) | (with_reducible apply is_Bo .mul; refine bo_mul rfl (.inr (by decide)) ?_) | (with_reducible apply is_Bo .len; refine bo_len rfl rfl ?_) | with_reducible refine .inl ⟨rfl, ?_⟩ | with_reducible refine .inr ⟨_, rfl, ?_⟩ | refine ⟨Nat.le_of_ble_eq_true rfl, ?_⟩ | with_reducible refine ⟨rfl, ?_⟩ | with_reducible refine ⟨isCont_l, ?_⟩))
    refine (s_next hF (n := n + 1) uC.src (by omega) (by omega)).imp fun d mD ⟨v, e, v0, v1, uD⟩ => ?_
    subst e
    (repeat (first | with_reducible apply run_snil | (with_reducible apply is_S (.set _ _); refine run_snx (run_set ?_)) | (with_reducible apply is_S (.setO _ _); refine run_snx (run_setO ?_)) | (with_reducible apply is_S (.fr _ (.setO _ _)); refine run_snx (run_fr (run_setO ?_))) | (with_reducible apply is_S (.fr _ (.set _ _)); refine run_snx (run_fr (run_set ?_))) | (with_reducible apply is_S (.ext _ _); refine run_snx (run_ext rfl ?_)) | (with_reducible apply is_S (.ret _); refine run_scons (run_ret ?_)) | with_reducible apply run_k | with_reducible apply r_bi | with_reducible apply run_and_nil | with_reducible apply run_and_cons | with_reducible apply run_tup | with_reducible apply run_lst | with_reducible apply run_nil | with_reducible apply run_cons | with_reducible apply run_anil | with_reducible apply run_acons | with_reducible apply run_ae | with_reducible apply r_call | with_reducible apply run_s01 | with_reducible apply run_seq | with_reducible apply run_lcF | (with_reducible apply is_E (.v _); refine run_v rfl ?_) | (with_reducible apply is_A (.b _); refine run_ab rfl ?_) | (with_reducible apply is_Bo .add; refine bo_addI rfl ?_) | (with_reducible apply is_Bo .lt; refine bo_ltI rfl ?_) | (with_reducible apply is_Bo .min2; refine bo_min2 rfl ?_) | (with_reducible apply is_Bo .mul; refine bo_mul rfl (.inl (by decide)) ?_) | (with_reducible apply is_Bo .mul; refine bo_mul rfl (.inr (by decide)) ?_) | (with_reducible apply is_Bo .len; refine bo_len rfl rfl ?_) | with_reducible refine .inl ⟨rfl, ?_⟩ | with_reducible refine .inr ⟨_, rfl, ?_⟩ | refine ⟨Nat.le_of_ble_eq_true rfl, ?_⟩ | with_reducible refine ⟨rfl, ?_⟩ | with_reducible refine ⟨isCont_l, ?_⟩))
    refine (s_one hF (n := n) (xs := [.int 18, .int (ns.length + 1), .int (2 * ns.length), .int v]) uD.src (.l _) (by simp) (by simp)).imp fun d mE ⟨hd, uE⟩ => ?_
    obtain ⟨q, rfl, hq⟩ : ∃ q : Int, d = .int q ∧ 0 ≤ q := by
      simp only [List.mem_cons, List.not_mem_nil, or_false] at hd
      rcases hd with rfl | rfl | rfl | rfl
      · exact ⟨_, rfl, by decide⟩
      · exact ⟨_, rfl, by omega⟩
      · exact ⟨_, rfl, by omega⟩
      · exact ⟨_, rfl, v0⟩
    (repeat (first | with_reducible apply run_snil | (with_reducible apply is_S (.set _ _); refine run_snx (run_set ?_)) | (with_reducible apply is_S (.setO _ _); refine run_snx (run_setO ?_)) | (with_reducible apply is_S (.fr _ (.setO _ _)); refine run_snx (run_fr (run_setO ?_))) | (with_reducible apply is_S (.fr _ (.set _ _)); refine run_snx (run_fr (run_set ?_))) | (with_reducible apply is_S (.ext _ _); refine run_snx (run_ext rfl ?_)) | (with_reducible apply is_S (.ret _); refine run_scons (run_ret ?_)) | with_reducible apply run_k | with_reducible apply r_bi | with_reducible apply run_and_nil | with_reducible apply run_and_cons | with_reducible apply run_tup | with_reducible apply run_lst | with_reducible apply run_nil | with_reducible apply run_cons | with_reducible apply run_anil | with_reducible apply run_acons | with_reducible apply run_ae | with_reducible apply r_call | with_reducible apply run_s01 | with_reducible apply run_seq | with_reducible apply run_lcF | (with_reducible apply is_E (.v _); refine run_v rfl ?_) | (with_reducible apply is_A (.b _); refine run_ab rfl ?_) | (with_reducible apply is_Bo .add; refine bo_addI rfl ?_) | (with_reducible apply is_Bo .lt; refine bo_ltI rfl ?_) | (with_reducible apply is_Bo .min2; refine bo_min2 rfl ?_) | (with_reducible apply is_Bo .mul; refine bo_mul rfl (.inl (by decide)) ?_) | (with_reducible apply is_Bo .mul; refine bo_mul rfl (.inr (by decide)) ?_) | (with_reducible apply is_Bo .len; refine bo_len rfl rfl ?_) | with_reducible refine .inl ⟨rfl, ?_⟩ | with_reducible refine .inr ⟨_, rfl, ?_⟩ | refine ⟨Nat.le_of_ble_eq_true rfl, ?_⟩ | with_reducible refine ⟨rfl, ?_⟩ | with_reducible refine ⟨isCont_l, ?_⟩))
    refine ⟨_, _, rfl, sl_to rfl (by split <;> omega), ?_⟩
    (repeat (first | with_reducible apply run_snil | (with_reducible apply is_S (.set _ _); refine run_snx (run_set ?_)) | (with_reducible apply is_S (.setO _ _); refine run_snx (run_setO ?_)) | (with_reducible apply is_S (.fr _ (.setO _ _)); refine run_snx (run_fr (run_setO ?_))) | (with_reducible apply is_S (.fr _ (.set _ _)); refine run_snx (run_fr (run_set ?_))) | (with_reducible apply is_S (.ext _ _); refine run_snx (run_ext rfl ?_)) | (with_reducible apply is_S (.ret _); refine run_scons (run_ret ?_)) | with_reducible apply run_k | with_reducible apply r_bi | with_reducible apply run_and_nil | with_reducible apply run_and_cons | with_reducible apply run_tup | with_reducible apply run_lst | with_reducible apply run_nil | with_reducible apply run_cons | with_reducible apply run_anil | with_reducible apply run_acons | with_reducible apply run_ae | with_reducible apply r_call | with_reducible apply run_s01 | with_reducible apply run_seq | with_reducible apply run_lcF | (with_reducible apply is_E (.v _); refine run_v rfl ?_) | (with_reducible apply is_A (.b _); refine run_ab rfl ?_) | (with_reducible apply is_Bo .add; refine bo_addI rfl ?_) | (with_reducible apply is_Bo .lt; refine bo_ltI rfl ?_) | (with_reducible apply is_Bo .min2; refine bo_min2 rfl ?_) | (with_reducible apply is_Bo .mul; refine bo_mul rfl (.inl (by decide)) ?_) | (with_reducible apply is_Bo .mul; refine bo_mul rfl (.inr (by decide)) ?_) | (with_reducible apply is_Bo .len; refine bo_len rfl rfl ?_) | with_reducible refine .inl ⟨rfl, ?_⟩ | with_reducible refine .inr ⟨_, rfl, ?_⟩ | refine ⟨Nat.le_of_ble_eq_true rfl, ?_⟩ | with_reducible refine ⟨rfl, ?_⟩ | with_reducible refine ⟨isCont_l, ?_⟩))
    refine .inl ⟨_, rfl, ns, _, rfl, ⟨vs, ln⟩, ⟨fun e he => ?_, ?_, ?_⟩, (((uA.trans uB).trans uC).trans uD).trans uE⟩
    · obtain ⟨a, ha, he⟩ := List.mem_flatMap.mp (pe.mem_iff.mp (List.mem_of_mem_take he))
      obtain ⟨b, hb, l, rfl⟩ := mem_ups.mp he
      exact ⟨a, b, rfl, ha, hb, l⟩
    · exact (pe.nodup_iff.mpr (all_nd vs.nd)).sublist (List.take_sublist _ _)
    · rw [List.length_take]
      split <;> omega
/-- no vertex in common -/
def ap : D → D → Bool
  | .tup [x, y], .tup ys => !decide (x ∈ ys) && !decide (y ∈ ys)
  | _, _ => false
omit hF in
theorem Ed.two {e : D} (h : Ed e) : ∃ a b, e = pr a b ∧ Nm a ∧ Nm b := by
  obtain ⟨a, b, e1, ha, hb, _⟩ := h
  exact ⟨a, b, e1, ha, hb⟩
omit hF in
theorem Ed.oks {a b : D} (ha : Nm a) (hb : Nm b) : ∀ d ∈ [a, b], Ok d := fun d hd => by
  simp only [List.mem_cons, List.not_mem_nil, or_false] at hd
  rcases hd with rfl | rfl
  · exact ha.ok.1
  · exact hb.ok.1
theorem s_apart {n : Nat} {m : List D} {e f : D} (he : Ed e) (hf : Ed f) : RunC (call F ini W (n + 1) 16 [e, f] m) fun d m' => d = .bl (ap e f) ∧ m' = m := by
  obtain ⟨a, b, rfl, ha, hb⟩ := he.two
  obtain ⟨c, d, rfl, hc, hd⟩ := hf.two
  refine run_def (r := [.v (pr a b), .v (pr c d)]) (hF _ _ rfl) (by intro c h; cases h) rfl rfl ?_
  dsimp only [d_are_apart]
  (repeat (first | with_reducible apply run_snil | (with_reducible apply is_S (.ret _); refine run_scons (run_ret ?_)) | with_reducible apply run_k | with_reducible apply r_bi | with_reducible apply run_and_nil | with_reducible apply run_and_cons | with_reducible apply run_and | with_reducible apply run_nil | with_reducible apply run_cons | with_reducible apply run_anil | with_reducible apply run_acons | with_reducible apply run_ae | (with_reducible apply is_E (.v _); refine run_v rfl ?_) | with_reducible refine .inl ⟨rfl, ?_⟩ | with_reducible refine .inr ⟨_, rfl, ?_⟩ | refine ⟨Nat.le_of_ble_eq_true rfl, ?_⟩ | with_reducible refine ⟨rfl, ?_⟩ | with_reducible refine ⟨isCont_l, ?_⟩))
  refine bo_idx rfl rfl rfl rfl ?_
  (repeat (first | with_reducible apply run_snil | (with_reducible apply is_S (.ret _); refine run_scons (run_ret ?_)) | with_reducible apply run_k | with_reducible apply r_bi | with_reducible apply run_and_nil | with_reducible apply run_and_cons | with_reducible apply run_and | with_reducible apply run_nil | with_reducible apply run_cons | with_reducible apply run_anil | with_reducible apply run_acons | with_reducible apply run_ae | (with_reducible apply is_E (.v _); refine run_v rfl ?_) | with_reducible refine .inl ⟨rfl, ?_⟩ | with_reducible refine .inr ⟨_, rfl, ?_⟩ | refine ⟨Nat.le_of_ble_eq_true rfl, ?_⟩ | with_reducible refine ⟨rfl, ?_⟩ | with_reducible refine ⟨isCont_l, ?_⟩))
  refine bo_notin rfl rfl (hasD_ok ha.ok.1 (Ed.oks hc hd)) ?_
  refine ⟨_, rfl, fun h1 => ?_, fun h1 => ?_⟩
  · (repeat (first | with_reducible apply run_snil | (with_reducible apply is_S (.ret _); refine run_scons (run_ret ?_)) | with_reducible apply run_k | with_reducible apply r_bi | with_reducible apply run_and_nil | with_reducible apply run_and_cons | with_reducible apply run_and | with_reducible apply run_nil | with_reducible apply run_cons | with_reducible apply run_anil | with_reducible apply run_acons | with_reducible apply run_ae | (with_reducible apply is_E (.v _); refine run_v rfl ?_) | with_reducible refine .inl ⟨rfl, ?_⟩ | with_reducible refine .inr ⟨_, rfl, ?_⟩ | refine ⟨Nat.le_of_ble_eq_true rfl, ?_⟩ | with_reducible refine ⟨rfl, ?_⟩ | with_reducible refine ⟨isCont_l, ?_⟩))
    refine bo_idx rfl rfl rfl rfl ?_
    (repeat (first | with_reducible apply run_snil | (with_reducible apply is_S (.ret _); refine run_scons (run_ret ?_)) | with_reducible apply run_k | with_reducible apply r_bi | with_reducible apply run_and_nil | with_reducible apply run_and_cons | with_reducible apply run_and | with_reducible apply run_nil | with_reducible apply run_cons | with_reducible apply run_anil | with_reducible apply run_acons | with_reducible apply run_ae | (with_reducible apply is_E (.v _); refine run_v rfl ?_) | with_reducible refine .inl ⟨rfl, ?_⟩ | with_reducible refine .inr ⟨_, rfl, ?_⟩ | refine ⟨Nat.le_of_ble_eq_true rfl, ?_⟩ | with_reducible refine ⟨rfl, ?_⟩ | with_reducible refine ⟨isCont_l, ?_⟩))
    refine bo_notin rfl rfl (hasD_ok hb.ok.1 (Ed.oks hc hd)) ?_
    refine ⟨_, rfl, fun h2 => ?_, fun h2 => ?_⟩
    · (repeat (first | with_reducible apply run_snil | (with_reducible apply is_S (.ret _); refine run_scons (run_ret ?_)) | with_reducible apply run_k | with_reducible apply r_bi | with_reducible apply run_and_nil | with_reducible apply run_and_cons | with_reducible apply run_and | with_reducible apply run_nil | with_reducible apply run_cons | with_reducible apply run_anil | with_reducible apply run_acons | with_reducible apply run_ae | (with_reducible apply is_E (.v _); refine run_v rfl ?_) | with_reducible refine .inl ⟨rfl, ?_⟩ | with_reducible refine .inr ⟨_, rfl, ?_⟩ | refine ⟨Nat.le_of_ble_eq_true rfl, ?_⟩ | with_reducible refine ⟨rfl, ?_⟩ | with_reducible refine ⟨isCont_l, ?_⟩))
      refine .inl ⟨_, rfl, ?_, rfl⟩
      show _ = D.bl (!decide (a ∈ [c, d]) && !decide (b ∈ [c, d]))
      rw [h1, h2]; rfl
    · (repeat (first | with_reducible apply run_snil | (with_reducible apply is_S (.ret _); refine run_scons (run_ret ?_)) | with_reducible apply run_k | with_reducible apply r_bi | with_reducible apply run_and_nil | with_reducible apply run_and_cons | with_reducible apply run_and | with_reducible apply run_nil | with_reducible apply run_cons | with_reducible apply run_anil | with_reducible apply run_acons | with_reducible apply run_ae | (with_reducible apply is_E (.v _); refine run_v rfl ?_) | with_reducible refine .inl ⟨rfl, ?_⟩ | with_reducible refine .inr ⟨_, rfl, ?_⟩ | refine ⟨Nat.le_of_ble_eq_true rfl, ?_⟩ | with_reducible refine ⟨rfl, ?_⟩ | with_reducible refine ⟨isCont_l, ?_⟩))
      refine .inl ⟨_, rfl, ?_, rfl⟩
      show _ = D.bl (!decide (a ∈ [c, d]) && !decide (b ∈ [c, d]))
      rw [h1, h2]; rfl
  · (repeat (first | with_reducible apply run_snil | (with_reducible apply is_S (.ret _); refine run_scons (run_ret ?_)) | with_reducible apply run_k | with_reducible apply r_bi | with_reducible apply run_and_nil | with_reducible apply run_and_cons | with_reducible apply run_and | with_reducible apply run_nil | with_reducible apply run_cons | with_reducible apply run_anil | with_reducible apply run_acons | with_reducible apply run_ae | (with_reducible apply is_E (.v _); refine run_v rfl ?_) | with_reducible refine .inl ⟨rfl, ?_⟩ | with_reducible refine .inr ⟨_, rfl, ?_⟩ | refine ⟨Nat.le_of_ble_eq_true rfl, ?_⟩ | with_reducible refine ⟨rfl, ?_⟩ | with_reducible refine ⟨isCont_l, ?_⟩))
    refine .inl ⟨_, rfl, ?_, rfl⟩
    show _ = D.bl (!decide (a ∈ [c, d]) && !decide (b ∈ [c, d]))
    rw [h1]; rfl
/-- the pairs of sorted edges -/
def prL : List D → List D
  | [] => []
  | e :: es => (es.filterMap fun f => if ap e f = true then some (pr e f) else none) ++ prL es
/-- a graph's value -/
abbrev grV (ns es : List D) : D := .ins "Graph" ["vertices", "edges"] [.tup ns, .tup es]
omit hF in
theorem len_prL : ∀ es : List D, (prL es).length ≤ es.length * es.length
  | [] => Nat.le_refl _
  | e :: es => by
    have ih := len_prL es
    have z := len_fm (f := fun f => if ap e f = true then some (pr e f) else none) (l := es)
    unfold prL
    rw [List.length_append, List.length_cons, Nat.add_mul, Nat.mul_add]
    omega
omit hF in
theorem enum_at : ∀ {xs : List D} {n k : Nat} {x : D}, (enumD n xs)[k]? = some x → ∃ y, xs[k]? = some y ∧ x = pr (.int (n + k : Nat)) y
  | [], n, k, x, h => by simp [enumD] at h
  | y :: xs, n, 0, x, h => ⟨y, rfl, by simp [enumD] at h; exact h.symm⟩
  | y :: xs, n, k + 1, x, h => by
    obtain ⟨z, h1, h2⟩ := enum_at (xs := xs) (n := n + 1) (k := k) (x := x) (by simpa [enumD] using h)
    exact ⟨z, by simpa using h1, by rw [h2, show n + 1 + k = n + (k + 1) by omega]⟩
omit hF in
theorem enum_len : ∀ {xs : List D} {n : Nat}, (enumD n xs).length = xs.length
  | [], _ => rfl
  | _ :: xs, n => by simp [enumD, enum_len (xs := xs)]
theorem s_pairs {n : Nat} {m : List D} {ns es : List D} (ed : ∀ e ∈ es, Ed e) (hl : es.length ≤ 100) : RunC (call F ini W (n + 2) 95 [grV ns es] m) fun d m' => d = .lst (prL es) ∧ m' = m := by
  refine run_def (r := [.v (grV ns es), .un, .un, .un, .un]) (hF _ _ rfl) (by intro c h; cases h) rfl rfl ?_
  dsimp only [d_pairs]
  (repeat (first | with_reducible apply run_snil | (with_reducible apply is_S (.setO _ _); refine run_snx (run_setO ?_)) | (with_reducible apply is_S (.ext _ _); refine run_snx (run_ext rfl ?_)) | (with_reducible apply is_S (.retO _); refine run_scons (run_retO rfl rfl ?_)) | with_reducible apply run_k | with_reducible apply r_bi | with_reducible apply run_and_nil | with_reducible apply run_and_cons | with_reducible apply run_tup | with_reducible apply run_lst | with_reducible apply run_nil | with_reducible apply run_cons | with_reducible apply run_anil | with_reducible apply run_acons | with_reducible apply run_ae | with_reducible apply r_call | with_reducible apply r_att | with_reducible apply run_s10 | with_reducible apply run_seq | with_reducible apply run_enum | with_reducible apply run_lcF | (with_reducible apply is_E (.v _); refine run_v rfl ?_) | (with_reducible apply is_Bo .add; refine bo_addI rfl ?_) | with_reducible refine .inl ⟨rfl, ?_⟩ | with_reducible refine .inr ⟨_, rfl, ?_⟩ | refine ⟨Nat.le_of_ble_eq_true rfl, ?_⟩ | with_reducible refine ⟨rfl, ?_⟩ | with_reducible refine ⟨isCont_l, ?_⟩))
  refine run_snx (run_for ?_)
  (repeat (first | with_reducible apply run_snil | (with_reducible apply is_S (.setO _ _); refine run_snx (run_setO ?_)) | (with_reducible apply is_S (.ext _ _); refine run_snx (run_ext rfl ?_)) | (with_reducible apply is_S (.retO _); refine run_scons (run_retO rfl rfl ?_)) | with_reducible apply run_k | with_reducible apply r_bi | with_reducible apply run_and_nil | with_reducible apply run_and_cons | with_reducible apply run_tup | with_reducible apply run_lst | with_reducible apply run_nil | with_reducible apply run_cons | with_reducible apply run_anil | with_reducible apply run_acons | with_reducible apply run_ae | with_reducible apply r_call | with_reducible apply r_att | with_reducible apply run_s10 | with_reducible apply run_seq | with_reducible apply run_enum | with_reducible apply run_lcF | (with_reducible apply is_E (.v _); refine run_v rfl ?_) | (with_reducible apply is_Bo .add; refine bo_addI rfl ?_) | with_reducible refine .inl ⟨rfl, ?_⟩ | with_reducible refine .inr ⟨_, rfl, ?_⟩ | refine ⟨Nat.le_of_ble_eq_true rfl, ?_⟩ | with_reducible refine ⟨rfl, ?_⟩ | with_reducible refine ⟨isCont_l, ?_⟩))
  refine ⟨_, _, _, _, rfl, rfl, ?_⟩
  refine ⟨_, rfl, ?_⟩
  refine run_loopN (fun k r m' => ∃ found x2 x3, r = [.v (grV ns es), .o (.lst found), x2, x3, .un] ∧ nO x2 ∧ nO x3 ∧ m' = m ∧ found ++ prL (es.drop k) = prL es) ⟨[], .un, .un, rfl, nO_un, nO_un, rfl, rfl⟩ ?_ ?_
  · rintro k x r m' hk ⟨found, x2, x3, rfl, n2, n3, rfl, hfd⟩
    obtain ⟨e, hke, rfl⟩ := enum_at hk
    have he := ed e (List.mem_of_getElem? hke)
    have hkl := (List.getElem?_eq_some_iff.mp hke).1
    refine ⟨_, asg2 rfl n2 rfl n3, ?_⟩
    (repeat (first | with_reducible apply run_snil | (with_reducible apply is_S (.setO _ _); refine run_snx (run_setO ?_)) | (with_reducible apply is_S (.ext _ _); refine run_snx (run_ext rfl ?_)) | (with_reducible apply is_S (.retO _); refine run_scons (run_retO rfl rfl ?_)) | with_reducible apply run_k | with_reducible apply r_bi | with_reducible apply run_and_nil | with_reducible apply run_and_cons | with_reducible apply run_tup | with_reducible apply run_lst | with_reducible apply run_nil | with_reducible apply run_cons | with_reducible apply run_anil | with_reducible apply run_acons | with_reducible apply run_ae | with_reducible apply r_call | with_reducible apply r_att | with_reducible apply run_s10 | with_reducible apply run_seq | with_reducible apply run_enum | with_reducible apply run_lcF | (with_reducible apply is_E (.v _); refine run_v rfl ?_) | (with_reducible apply is_Bo .add; refine bo_addI rfl ?_) | with_reducible refine .inl ⟨rfl, ?_⟩ | with_reducible refine .inr ⟨_, rfl, ?_⟩ | refine ⟨Nat.le_of_ble_eq_true rfl, ?_⟩ | with_reducible refine ⟨rfl, ?_⟩ | with_reducible refine ⟨isCont_l, ?_⟩))
    refine r_lc ?_
    (repeat (first | with_reducible apply run_snil | (with_reducible apply is_S (.setO _ _); refine run_snx (run_setO ?_)) | (with_reducible apply is_S (.ext _ _); refine run_snx (run_ext rfl ?_)) | (with_reducible apply is_S (.retO _); refine run_scons (run_retO rfl rfl ?_)) | with_reducible apply run_k | with_reducible apply r_bi | with_reducible apply run_and_nil | with_reducible apply run_and_cons | with_reducible apply run_tup | with_reducible apply run_lst | with_reducible apply run_nil | with_reducible apply run_cons | with_reducible apply run_anil | with_reducible apply run_acons | with_reducible apply run_ae | with_reducible apply r_call | with_reducible apply r_att | with_reducible apply run_s10 | with_reducible apply run_seq | with_reducible apply run_enum | with_reducible apply run_lcF | (with_reducible apply is_E (.v _); refine run_v rfl ?_) | (with_reducible apply is_Bo .add; refine bo_addI rfl ?_) | with_reducible refine .inl ⟨rfl, ?_⟩ | with_reducible refine .inr ⟨_, rfl, ?_⟩ | refine ⟨Nat.le_of_ble_eq_true rfl, ?_⟩ | with_reducible refine ⟨rfl, ?_⟩ | with_reducible refine ⟨isCont_l, ?_⟩))
    refine ⟨_, _, _, _, rfl, rfl, ?_⟩
    (repeat (first | with_reducible apply run_snil | (with_reducible apply is_S (.setO _ _); refine run_snx (run_setO ?_)) | (with_reducible apply is_S (.ext _ _); refine run_snx (run_ext rfl ?_)) | (with_reducible apply is_S (.retO _); refine run_scons (run_retO rfl rfl ?_)) | with_reducible apply run_k | with_reducible apply r_bi | with_reducible apply run_and_nil | with_reducible apply run_and_cons | with_reducible apply run_tup | with_reducible apply run_lst | with_reducible apply run_nil | with_reducible apply run_cons | with_reducible apply run_anil | with_reducible apply run_acons | with_reducible apply run_ae | with_reducible apply r_call | with_reducible apply r_att | with_reducible apply run_s10 | with_reducible apply run_seq | with_reducible apply run_enum | with_reducible apply run_lcF | (with_reducible apply is_E (.v _); refine run_v rfl ?_) | (with_reducible apply is_Bo .add; refine bo_addI rfl ?_) | with_reducible refine .inl ⟨rfl, ?_⟩ | with_reducible refine .inr ⟨_, rfl, ?_⟩ | refine ⟨Nat.le_of_ble_eq_true rfl, ?_⟩ | with_reducible refine ⟨rfl, ?_⟩ | with_reducible refine ⟨isCont_l, ?_⟩))
    refine ⟨_, _, rfl, sl_fromT rfl (by omega), ?_⟩
    rw [show ((0 + k : Nat) + 1 : Int).toNat = k + 1 by omega]
    have hdr : ∀ f ∈ es.drop (k + 1), Ed f := fun f hf => ed f (List.mem_of_mem_drop hf)
    refine ⟨_, rfl, rfl, by rw [List.length_drop]; omega, fun f => if ap e f = true then some (pr e f) else none, fun f hf => ⟨_, rfl, ?_⟩, ?_⟩
    · (repeat (first | with_reducible apply run_snil | (with_reducible apply is_S (.setO _ _); refine run_snx (run_setO ?_)) | (with_reducible apply is_S (.ext _ _); refine run_snx (run_ext rfl ?_)) | (with_reducible apply is_S (.retO _); refine run_scons (run_retO rfl rfl ?_)) | with_reducible apply run_k | with_reducible apply r_bi | with_reducible apply run_and_nil | with_reducible apply run_and_cons | with_reducible apply run_tup | with_reducible apply run_lst | with_reducible apply run_nil | with_reducible apply run_cons | with_reducible apply run_anil | with_reducible apply run_acons | with_reducible apply run_ae | with_reducible apply r_call | with_reducible apply r_att | with_reducible apply run_s10 | with_reducible apply run_seq | with_reducible apply run_enum | with_reducible apply run_lcF | (with_reducible apply is_E (.v _); refine run_v rfl ?_) | (with_reducible apply is_Bo .add; refine bo_addI rfl ?_) | with_reducible refine .inl ⟨rfl, ?_⟩ | with_reducible refine .inr ⟨_, rfl, ?_⟩ | refine ⟨Nat.le_of_ble_eq_true rfl, ?_⟩ | with_reducible refine ⟨rfl, ?_⟩ | with_reducible refine ⟨isCont_l, ?_⟩))
      refine (s_apart hF (n := n) he (hdr f hf)).imp fun d m2 ⟨e1, e2⟩ => ?_
      subst e1 e2
      refine ⟨_, rfl, fun hc => ?_, fun hc => ?_⟩
      · (repeat (first | with_reducible apply run_snil | (with_reducible apply is_S (.setO _ _); refine run_snx (run_setO ?_)) | (with_reducible apply is_S (.ext _ _); refine run_snx (run_ext rfl ?_)) | (with_reducible apply is_S (.retO _); refine run_scons (run_retO rfl rfl ?_)) | with_reducible apply run_k | with_reducible apply r_bi | with_reducible apply run_and_nil | with_reducible apply run_and_cons | with_reducible apply run_tup | with_reducible apply run_lst | with_reducible apply run_nil | with_reducible apply run_cons | with_reducible apply run_anil | with_reducible apply run_acons | with_reducible apply run_ae | with_reducible apply r_call | with_reducible apply r_att | with_reducible apply run_s10 | with_reducible apply run_seq | with_reducible apply run_enum | with_reducible apply run_lcF | (with_reducible apply is_E (.v _); refine run_v rfl ?_) | (with_reducible apply is_Bo .add; refine bo_addI rfl ?_) | with_reducible refine .inl ⟨rfl, ?_⟩ | with_reducible refine .inr ⟨_, rfl, ?_⟩ | refine ⟨Nat.le_of_ble_eq_true rfl, ?_⟩ | with_reducible refine ⟨rfl, ?_⟩ | with_reducible refine ⟨isCont_l, ?_⟩))
        refine ⟨fun _ => ?_, fun z => nomatch z⟩
        (repeat (first | with_reducible apply run_snil | (with_reducible apply is_S (.setO _ _); refine run_snx (run_setO ?_)) | (with_reducible apply is_S (.ext _ _); refine run_snx (run_ext rfl ?_)) | (with_reducible apply is_S (.retO _); refine run_scons (run_retO rfl rfl ?_)) | with_reducible apply run_k | with_reducible apply r_bi | with_reducible apply run_and_nil | with_reducible apply run_and_cons | with_reducible apply run_tup | with_reducible apply run_lst | with_reducible apply run_nil | with_reducible apply run_cons | with_reducible apply run_anil | with_reducible apply run_acons | with_reducible apply run_ae | with_reducible apply r_call | with_reducible apply r_att | with_reducible apply run_s10 | with_reducible apply run_seq | with_reducible apply run_enum | with_reducible apply run_lcF | (with_reducible apply is_E (.v _); refine run_v rfl ?_) | (with_reducible apply is_Bo .add; refine bo_addI rfl ?_) | with_reducible refine .inl ⟨rfl, ?_⟩ | with_reducible refine .inr ⟨_, rfl, ?_⟩ | refine ⟨Nat.le_of_ble_eq_true rfl, ?_⟩ | with_reducible refine ⟨rfl, ?_⟩ | with_reducible refine ⟨isCont_l, ?_⟩))
        exact ⟨(if_pos hc).symm, rfl, rfl⟩
      · (repeat (first | with_reducible apply run_snil | (with_reducible apply is_S (.setO _ _); refine run_snx (run_setO ?_)) | (with_reducible apply is_S (.ext _ _); refine run_snx (run_ext rfl ?_)) | (with_reducible apply is_S (.retO _); refine run_scons (run_retO rfl rfl ?_)) | with_reducible apply run_k | with_reducible apply r_bi | with_reducible apply run_and_nil | with_reducible apply run_and_cons | with_reducible apply run_tup | with_reducible apply run_lst | with_reducible apply run_nil | with_reducible apply run_cons | with_reducible apply run_anil | with_reducible apply run_acons | with_reducible apply run_ae | with_reducible apply r_call | with_reducible apply r_att | with_reducible apply run_s10 | with_reducible apply run_seq | with_reducible apply run_enum | with_reducible apply run_lcF | (with_reducible apply is_E (.v _); refine run_v rfl ?_) | (with_reducible apply is_Bo .add; refine bo_addI rfl ?_) | with_reducible refine .inl ⟨rfl, ?_⟩ | with_reducible refine .inr ⟨_, rfl, ?_⟩ | refine ⟨Nat.le_of_ble_eq_true rfl, ?_⟩ | with_reducible refine ⟨rfl, ?_⟩ | with_reducible refine ⟨isCont_l, ?_⟩))
        exact ⟨(fun z => nomatch z), fun _ => ⟨(if_neg (by rw [hc]; decide)).symm, rfl, rfl⟩⟩
    · have e2 : es.drop k = e :: es.drop (k + 1) := by
        rw [List.drop_eq_getElem_cons hkl]
        have := (List.getElem?_eq_some_iff.mp hke).2
        rw [this]
      rw [e2, prL] at hfd
      have lf : found.length ≤ 10000 := by
        have z1 := congrArg List.length hfd
        have z2 := len_prL es
        simp only [List.length_append] at z1
        have z3 : es.length * es.length ≤ 100 * 100 := Nat.mul_le_mul hl hl
        omega
      refine ⟨_, _, rfl, rfl, ?_, ?_⟩
      · have z := len_fm (f := fun f => if ap e f = true then some (pr e f) else none) (l := es.drop (k + 1))
        rw [List.length_drop] at z
        omega
      · (repeat (first | with_reducible apply run_snil | (with_reducible apply is_S (.setO _ _); refine run_snx (run_setO ?_)) | (with_reducible apply is_S (.ext _ _); refine run_snx (run_ext rfl ?_)) | (with_reducible apply is_S (.retO _); refine run_scons (run_retO rfl rfl ?_)) | with_reducible apply run_k | with_reducible apply r_bi | with_reducible apply run_and_nil | with_reducible apply run_and_cons | with_reducible apply run_tup | with_reducible apply run_lst | with_reducible apply run_nil | with_reducible apply run_cons | with_reducible apply run_anil | with_reducible apply run_acons | with_reducible apply run_ae | with_reducible apply r_call | with_reducible apply r_att | with_reducible apply run_s10 | with_reducible apply run_seq | with_reducible apply run_enum | with_reducible apply run_lcF | (with_reducible apply is_E (.v _); refine run_v rfl ?_) | (with_reducible apply is_Bo .add; refine bo_addI rfl ?_) | with_reducible refine .inl ⟨rfl, ?_⟩ | with_reducible refine .inr ⟨_, rfl, ?_⟩ | refine ⟨Nat.le_of_ble_eq_true rfl, ?_⟩ | with_reducible refine ⟨rfl, ?_⟩ | with_reducible refine ⟨isCont_l, ?_⟩))
        exact ⟨_, _, _, rfl, nO_v _, nO_v _, rfl, by rw [List.append_assoc]; exact hfd⟩
  · rintro r m' ⟨found, x2, x3, rfl, n2, n3, rfl, hfd⟩
    (repeat (first | with_reducible apply run_snil | (with_reducible apply is_S (.setO _ _); refine run_snx (run_setO ?_)) | (with_reducible apply is_S (.ext _ _); refine run_snx (run_ext rfl ?_)) | (with_reducible apply is_S (.retO _); refine run_scons (run_retO rfl rfl ?_)) | with_reducible apply run_k | with_reducible apply r_bi | with_reducible apply run_and_nil | with_reducible apply run_and_cons | with_reducible apply run_tup | with_reducible apply run_lst | with_reducible apply run_nil | with_reducible apply run_cons | with_reducible apply run_anil | with_reducible apply run_acons | with_reducible apply run_ae | with_reducible apply r_call | with_reducible apply r_att | with_reducible apply run_s10 | with_reducible apply run_seq | with_reducible apply run_enum | with_reducible apply run_lcF | (with_reducible apply is_E (.v _); refine run_v rfl ?_) | (with_reducible apply is_Bo .add; refine bo_addI rfl ?_) | with_reducible refine .inl ⟨rfl, ?_⟩ | with_reducible refine .inr ⟨_, rfl, ?_⟩ | refine ⟨Nat.le_of_ble_eq_true rfl, ?_⟩ | with_reducible refine ⟨rfl, ?_⟩ | with_reducible refine ⟨isCont_l, ?_⟩))
    refine .inl ⟨_, rfl, ?_, rfl⟩
    rw [enum_len, List.drop_length] at hfd
    simp only [prL, List.append_nil] at hfd
    rw [hfd]
/-- the law's pairs -/
def lpL (es : List D) (a : D) : List D := (es.filter (ap a)).filterMap fun b => if ltd a b = true then some (pr a b) else none
omit hF in
theorem Ed.ne : edT ≠ .tup [] := by unfold edT; simp
omit hF in
theorem ap_two {a b c d : D} : ap (pr a b) (pr c d) = (!decide (a ∈ [c, d]) && !decide (b ∈ [c, d])) := rfl
omit hF in
theorem fm_if {p : D → Bool} : ∀ {xs : List D}, (xs.filterMap fun x => if p x = true then some x else none) = xs.filter p
  | [] => rfl
  | x :: xs => by
    rw [List.filterMap_cons, List.filter_cons, fm_if]
    cases p x <;> rfl
theorem s_lpairs {n : Nat} {m : List D} {es : List D} (ed : ∀ e ∈ es, Ed e) (hl : es.length ≤ 100) : RunC (call F ini W (n + 1) 1114 [.lst es] m) fun d m' => d = .lst ((srt es).flatMap (lpL (srt es))) ∧ m' = m := by
  have sd : sortD es = some (srt es) := sortD_ok Ed.ne (fun e he => (ed e he).sh) (fun e he => (ed e he).ok.1) (by omega)
  have ed2 : ∀ e ∈ srt es, Ed e := fun e he => ed e (srt_mem.mp he)
  have l2 : (srt es).length = es.length := (srt_perm es).length_eq
  refine run_def (r := [.v (.lst es), .un, .un, .un, .un]) (hF _ _ rfl) (by intro c h; cases h) rfl rfl ?_
  dsimp only [d__law_pairs]
  (repeat (first | with_reducible apply run_snil | (with_reducible apply is_S (.set _ _); refine run_snx (run_set ?_)) | (with_reducible apply is_S (.setO _ _); refine run_snx (run_setO ?_)) | (with_reducible apply is_S (.ext _ _); refine run_snx (run_ext rfl ?_)) | (with_reducible apply is_S (.retO _); refine run_scons (run_retO rfl rfl ?_)) | with_reducible apply run_k | with_reducible apply r_bi | with_reducible apply run_and_nil | with_reducible apply run_and_cons | with_reducible apply run_and | with_reducible apply run_tup | with_reducible apply run_lst | with_reducible apply run_nil | with_reducible apply run_cons | with_reducible apply run_anil | with_reducible apply run_acons | with_reducible apply run_ae | with_reducible apply run_seq | with_reducible apply run_lcF | (with_reducible apply is_E (.v _); refine run_v rfl ?_) | (with_reducible apply is_Bo .lt; refine bo_ltI rfl ?_) | with_reducible refine .inl ⟨rfl, ?_⟩ | with_reducible refine .inr ⟨_, rfl, ?_⟩ | refine ⟨Nat.le_of_ble_eq_true rfl, ?_⟩ | with_reducible refine ⟨rfl, ?_⟩ | with_reducible refine ⟨isCont_l, ?_⟩))
  refine run_snx (run_for ?_)
  (repeat (first | with_reducible apply run_snil | (with_reducible apply is_S (.set _ _); refine run_snx (run_set ?_)) | (with_reducible apply is_S (.setO _ _); refine run_snx (run_setO ?_)) | (with_reducible apply is_S (.ext _ _); refine run_snx (run_ext rfl ?_)) | (with_reducible apply is_S (.retO _); refine run_scons (run_retO rfl rfl ?_)) | with_reducible apply run_k | with_reducible apply r_bi | with_reducible apply run_and_nil | with_reducible apply run_and_cons | with_reducible apply run_and | with_reducible apply run_tup | with_reducible apply run_lst | with_reducible apply run_nil | with_reducible apply run_cons | with_reducible apply run_anil | with_reducible apply run_acons | with_reducible apply run_ae | with_reducible apply run_seq | with_reducible apply run_lcF | (with_reducible apply is_E (.v _); refine run_v rfl ?_) | (with_reducible apply is_Bo .lt; refine bo_ltI rfl ?_) | with_reducible refine .inl ⟨rfl, ?_⟩ | with_reducible refine .inr ⟨_, rfl, ?_⟩ | refine ⟨Nat.le_of_ble_eq_true rfl, ?_⟩ | with_reducible refine ⟨rfl, ?_⟩ | with_reducible refine ⟨isCont_l, ?_⟩))
  refine bo_sort rfl rfl sd ?_
  refine ⟨_, rfl, ?_⟩
  refine run_loopN (fun k r m' => ∃ x2 x3, r = [.v (.lst es), .o (.lst (((srt es).take k).flatMap (lpL (srt es)))), x2, x3, .un] ∧ nO x2 ∧ nO x3 ∧ m' = m) ⟨.un, .un, rfl, nO_un, nO_un, rfl⟩ ?_ ?_
  · rintro k e r m' hk ⟨x2, x3, rfl, n2, n3, rfl⟩
    have he := ed2 e (List.mem_of_getElem? hk)
    refine ⟨_, asg rfl n2, ?_⟩
    (repeat (first | with_reducible apply run_snil | (with_reducible apply is_S (.set _ _); refine run_snx (run_set ?_)) | (with_reducible apply is_S (.setO _ _); refine run_snx (run_setO ?_)) | (with_reducible apply is_S (.ext _ _); refine run_snx (run_ext rfl ?_)) | (with_reducible apply is_S (.retO _); refine run_scons (run_retO rfl rfl ?_)) | with_reducible apply run_k | with_reducible apply r_bi | with_reducible apply run_and_nil | with_reducible apply run_and_cons | with_reducible apply run_and | with_reducible apply run_tup | with_reducible apply run_lst | with_reducible apply run_nil | with_reducible apply run_cons | with_reducible apply run_anil | with_reducible apply run_acons | with_reducible apply run_ae | with_reducible apply run_seq | with_reducible apply run_lcF | (with_reducible apply is_E (.v _); refine run_v rfl ?_) | (with_reducible apply is_Bo .lt; refine bo_ltI rfl ?_) | with_reducible refine .inl ⟨rfl, ?_⟩ | with_reducible refine .inr ⟨_, rfl, ?_⟩ | refine ⟨Nat.le_of_ble_eq_true rfl, ?_⟩ | with_reducible refine ⟨rfl, ?_⟩ | with_reducible refine ⟨isCont_l, ?_⟩))
    refine r_lc ?_
    (repeat (first | with_reducible apply run_snil | (with_reducible apply is_S (.set _ _); refine run_snx (run_set ?_)) | (with_reducible apply is_S (.setO _ _); refine run_snx (run_setO ?_)) | (with_reducible apply is_S (.ext _ _); refine run_snx (run_ext rfl ?_)) | (with_reducible apply is_S (.retO _); refine run_scons (run_retO rfl rfl ?_)) | with_reducible apply run_k | with_reducible apply r_bi | with_reducible apply run_and_nil | with_reducible apply run_and_cons | with_reducible apply run_and | with_reducible apply run_tup | with_reducible apply run_lst | with_reducible apply run_nil | with_reducible apply run_cons | with_reducible apply run_anil | with_reducible apply run_acons | with_reducible apply run_ae | with_reducible apply run_seq | with_reducible apply run_lcF | (with_reducible apply is_E (.v _); refine run_v rfl ?_) | (with_reducible apply is_Bo .lt; refine bo_ltI rfl ?_) | with_reducible refine .inl ⟨rfl, ?_⟩ | with_reducible refine .inr ⟨_, rfl, ?_⟩ | refine ⟨Nat.le_of_ble_eq_true rfl, ?_⟩ | with_reducible refine ⟨rfl, ?_⟩ | with_reducible refine ⟨isCont_l, ?_⟩))
    refine bo_sort rfl rfl sd ?_
    refine ⟨_, rfl, rfl, by omega, fun f => if ap e f = true then some f else none, fun f hf => ⟨_, rfl, ?_⟩, ?_⟩
    · obtain ⟨a, b, rfl, ha, hb⟩ := he.two
      obtain ⟨c, d, rfl, hc, hd⟩ := (ed2 f hf).two
      (repeat (first | with_reducible apply run_snil | (with_reducible apply is_S (.set _ _); refine run_snx (run_set ?_)) | (with_reducible apply is_S (.setO _ _); refine run_snx (run_setO ?_)) | (with_reducible apply is_S (.ext _ _); refine run_snx (run_ext rfl ?_)) | (with_reducible apply is_S (.retO _); refine run_scons (run_retO rfl rfl ?_)) | with_reducible apply run_k | with_reducible apply r_bi | with_reducible apply run_and_nil | with_reducible apply run_and_cons | with_reducible apply run_and | with_reducible apply run_tup | with_reducible apply run_lst | with_reducible apply run_nil | with_reducible apply run_cons | with_reducible apply run_anil | with_reducible apply run_acons | with_reducible apply run_ae | with_reducible apply run_seq | with_reducible apply run_lcF | (with_reducible apply is_E (.v _); refine run_v rfl ?_) | (with_reducible apply is_Bo .lt; refine bo_ltI rfl ?_) | with_reducible refine .inl ⟨rfl, ?_⟩ | with_reducible refine .inr ⟨_, rfl, ?_⟩ | refine ⟨Nat.le_of_ble_eq_true rfl, ?_⟩ | with_reducible refine ⟨rfl, ?_⟩ | with_reducible refine ⟨isCont_l, ?_⟩))
      refine bo_idx rfl rfl rfl rfl ?_
      (repeat (first | with_reducible apply run_snil | (with_reducible apply is_S (.set _ _); refine run_snx (run_set ?_)) | (with_reducible apply is_S (.setO _ _); refine run_snx (run_setO ?_)) | (with_reducible apply is_S (.ext _ _); refine run_snx (run_ext rfl ?_)) | (with_reducible apply is_S (.retO _); refine run_scons (run_retO rfl rfl ?_)) | with_reducible apply run_k | with_reducible apply r_bi | with_reducible apply run_and_nil | with_reducible apply run_and_cons | with_reducible apply run_and | with_reducible apply run_tup | with_reducible apply run_lst | with_reducible apply run_nil | with_reducible apply run_cons | with_reducible apply run_anil | with_reducible apply run_acons | with_reducible apply run_ae | with_reducible apply run_seq | with_reducible apply run_lcF | (with_reducible apply is_E (.v _); refine run_v rfl ?_) | (with_reducible apply is_Bo .lt; refine bo_ltI rfl ?_) | with_reducible refine .inl ⟨rfl, ?_⟩ | with_reducible refine .inr ⟨_, rfl, ?_⟩ | refine ⟨Nat.le_of_ble_eq_true rfl, ?_⟩ | with_reducible refine ⟨rfl, ?_⟩ | with_reducible refine ⟨isCont_l, ?_⟩))
      refine bo_notin rfl rfl (hasD_ok ha.ok.1 (Ed.oks hc hd)) ?_
      refine ⟨_, rfl, fun h1 => ?_, fun h1 => ?_⟩
      · (repeat (first | with_reducible apply run_snil | (with_reducible apply is_S (.set _ _); refine run_snx (run_set ?_)) | (with_reducible apply is_S (.setO _ _); refine run_snx (run_setO ?_)) | (with_reducible apply is_S (.ext _ _); refine run_snx (run_ext rfl ?_)) | (with_reducible apply is_S (.retO _); refine run_scons (run_retO rfl rfl ?_)) | with_reducible apply run_k | with_reducible apply r_bi | with_reducible apply run_and_nil | with_reducible apply run_and_cons | with_reducible apply run_and | with_reducible apply run_tup | with_reducible apply run_lst | with_reducible apply run_nil | with_reducible apply run_cons | with_reducible apply run_anil | with_reducible apply run_acons | with_reducible apply run_ae | with_reducible apply run_seq | with_reducible apply run_lcF | (with_reducible apply is_E (.v _); refine run_v rfl ?_) | (with_reducible apply is_Bo .lt; refine bo_ltI rfl ?_) | with_reducible refine .inl ⟨rfl, ?_⟩ | with_reducible refine .inr ⟨_, rfl, ?_⟩ | refine ⟨Nat.le_of_ble_eq_true rfl, ?_⟩ | with_reducible refine ⟨rfl, ?_⟩ | with_reducible refine ⟨isCont_l, ?_⟩))
        refine bo_idx rfl rfl rfl rfl ?_
        (repeat (first | with_reducible apply run_snil | (with_reducible apply is_S (.set _ _); refine run_snx (run_set ?_)) | (with_reducible apply is_S (.setO _ _); refine run_snx (run_setO ?_)) | (with_reducible apply is_S (.ext _ _); refine run_snx (run_ext rfl ?_)) | (with_reducible apply is_S (.retO _); refine run_scons (run_retO rfl rfl ?_)) | with_reducible apply run_k | with_reducible apply r_bi | with_reducible apply run_and_nil | with_reducible apply run_and_cons | with_reducible apply run_and | with_reducible apply run_tup | with_reducible apply run_lst | with_reducible apply run_nil | with_reducible apply run_cons | with_reducible apply run_anil | with_reducible apply run_acons | with_reducible apply run_ae | with_reducible apply run_seq | with_reducible apply run_lcF | (with_reducible apply is_E (.v _); refine run_v rfl ?_) | (with_reducible apply is_Bo .lt; refine bo_ltI rfl ?_) | with_reducible refine .inl ⟨rfl, ?_⟩ | with_reducible refine .inr ⟨_, rfl, ?_⟩ | refine ⟨Nat.le_of_ble_eq_true rfl, ?_⟩ | with_reducible refine ⟨rfl, ?_⟩ | with_reducible refine ⟨isCont_l, ?_⟩))
        refine bo_notin rfl rfl (hasD_ok hb.ok.1 (Ed.oks hc hd)) ?_
        refine ⟨_, rfl, fun h2 => ?_, fun h2 => ?_⟩
        · (repeat (first | with_reducible apply run_snil | (with_reducible apply is_S (.set _ _); refine run_snx (run_set ?_)) | (with_reducible apply is_S (.setO _ _); refine run_snx (run_setO ?_)) | (with_reducible apply is_S (.ext _ _); refine run_snx (run_ext rfl ?_)) | (with_reducible apply is_S (.retO _); refine run_scons (run_retO rfl rfl ?_)) | with_reducible apply run_k | with_reducible apply r_bi | with_reducible apply run_and_nil | with_reducible apply run_and_cons | with_reducible apply run_and | with_reducible apply run_tup | with_reducible apply run_lst | with_reducible apply run_nil | with_reducible apply run_cons | with_reducible apply run_anil | with_reducible apply run_acons | with_reducible apply run_ae | with_reducible apply run_seq | with_reducible apply run_lcF | (with_reducible apply is_E (.v _); refine run_v rfl ?_) | (with_reducible apply is_Bo .lt; refine bo_ltI rfl ?_) | with_reducible refine .inl ⟨rfl, ?_⟩ | with_reducible refine .inr ⟨_, rfl, ?_⟩ | refine ⟨Nat.le_of_ble_eq_true rfl, ?_⟩ | with_reducible refine ⟨rfl, ?_⟩ | with_reducible refine ⟨isCont_l, ?_⟩))
          refine ⟨_, rfl, fun _ => ?_, fun z => nomatch z⟩
          (repeat (first | with_reducible apply run_snil | (with_reducible apply is_S (.set _ _); refine run_snx (run_set ?_)) | (with_reducible apply is_S (.setO _ _); refine run_snx (run_setO ?_)) | (with_reducible apply is_S (.ext _ _); refine run_snx (run_ext rfl ?_)) | (with_reducible apply is_S (.retO _); refine run_scons (run_retO rfl rfl ?_)) | with_reducible apply run_k | with_reducible apply r_bi | with_reducible apply run_and_nil | with_reducible apply run_and_cons | with_reducible apply run_and | with_reducible apply run_tup | with_reducible apply run_lst | with_reducible apply run_nil | with_reducible apply run_cons | with_reducible apply run_anil | with_reducible apply run_acons | with_reducible apply run_ae | with_reducible apply run_seq | with_reducible apply run_lcF | (with_reducible apply is_E (.v _); refine run_v rfl ?_) | (with_reducible apply is_Bo .lt; refine bo_ltI rfl ?_) | with_reducible refine .inl ⟨rfl, ?_⟩ | with_reducible refine .inr ⟨_, rfl, ?_⟩ | refine ⟨Nat.le_of_ble_eq_true rfl, ?_⟩ | with_reducible refine ⟨rfl, ?_⟩ | with_reducible refine ⟨isCont_l, ?_⟩))
          refine ⟨fun _ => ?_, fun z => nomatch z⟩
          (repeat (first | with_reducible apply run_snil | (with_reducible apply is_S (.set _ _); refine run_snx (run_set ?_)) | (with_reducible apply is_S (.setO _ _); refine run_snx (run_setO ?_)) | (with_reducible apply is_S (.ext _ _); refine run_snx (run_ext rfl ?_)) | (with_reducible apply is_S (.retO _); refine run_scons (run_retO rfl rfl ?_)) | with_reducible apply run_k | with_reducible apply r_bi | with_reducible apply run_and_nil | with_reducible apply run_and_cons | with_reducible apply run_and | with_reducible apply run_tup | with_reducible apply run_lst | with_reducible apply run_nil | with_reducible apply run_cons | with_reducible apply run_anil | with_reducible apply run_acons | with_reducible apply run_ae | with_reducible apply run_seq | with_reducible apply run_lcF | (with_reducible apply is_E (.v _); refine run_v rfl ?_) | (with_reducible apply is_Bo .lt; refine bo_ltI rfl ?_) | with_reducible refine .inl ⟨rfl, ?_⟩ | with_reducible refine .inr ⟨_, rfl, ?_⟩ | refine ⟨Nat.le_of_ble_eq_true rfl, ?_⟩ | with_reducible refine ⟨rfl, ?_⟩ | with_reducible refine ⟨isCont_l, ?_⟩))
          exact ⟨(if_pos (by rw [ap_two, h1, h2]; rfl)).symm, rfl, rfl⟩
        · (repeat (first | with_reducible apply run_snil | (with_reducible apply is_S (.set _ _); refine run_snx (run_set ?_)) | (with_reducible apply is_S (.setO _ _); refine run_snx (run_setO ?_)) | (with_reducible apply is_S (.ext _ _); refine run_snx (run_ext rfl ?_)) | (with_reducible apply is_S (.retO _); refine run_scons (run_retO rfl rfl ?_)) | with_reducible apply run_k | with_reducible apply r_bi | with_reducible apply run_and_nil | with_reducible apply run_and_cons | with_reducible apply run_and | with_reducible apply run_tup | with_reducible apply run_lst | with_reducible apply run_nil | with_reducible apply run_cons | with_reducible apply run_anil | with_reducible apply run_acons | with_reducible apply run_ae | with_reducible apply run_seq | with_reducible apply run_lcF | (with_reducible apply is_E (.v _); refine run_v rfl ?_) | (with_reducible apply is_Bo .lt; refine bo_ltI rfl ?_) | with_reducible refine .inl ⟨rfl, ?_⟩ | with_reducible refine .inr ⟨_, rfl, ?_⟩ | refine ⟨Nat.le_of_ble_eq_true rfl, ?_⟩ | with_reducible refine ⟨rfl, ?_⟩ | with_reducible refine ⟨isCont_l, ?_⟩))
          refine ⟨_, rfl, (fun z => nomatch z), fun _ => ?_⟩
          exact ⟨(fun z => nomatch z), fun _ => ⟨(if_neg (by rw [ap_two, h1, h2]; decide)).symm, rfl, rfl⟩⟩
      · (repeat (first | with_reducible apply run_snil | (with_reducible apply is_S (.set _ _); refine run_snx (run_set ?_)) | (with_reducible apply is_S (.setO _ _); refine run_snx (run_setO ?_)) | (with_reducible apply is_S (.ext _ _); refine run_snx (run_ext rfl ?_)) | (with_reducible apply is_S (.retO _); refine run_scons (run_retO rfl rfl ?_)) | with_reducible apply run_k | with_reducible apply r_bi | with_reducible apply run_and_nil | with_reducible apply run_and_cons | with_reducible apply run_and | with_reducible apply run_tup | with_reducible apply run_lst | with_reducible apply run_nil | with_reducible apply run_cons | with_reducible apply run_anil | with_reducible apply run_acons | with_reducible apply run_ae | with_reducible apply run_seq | with_reducible apply run_lcF | (with_reducible apply is_E (.v _); refine run_v rfl ?_) | (with_reducible apply is_Bo .lt; refine bo_ltI rfl ?_) | with_reducible refine .inl ⟨rfl, ?_⟩ | with_reducible refine .inr ⟨_, rfl, ?_⟩ | refine ⟨Nat.le_of_ble_eq_true rfl, ?_⟩ | with_reducible refine ⟨rfl, ?_⟩ | with_reducible refine ⟨isCont_l, ?_⟩))
        refine ⟨_, rfl, (fun z => nomatch z), fun _ => ?_⟩
        exact ⟨(fun z => nomatch z), fun _ => ⟨(if_neg (by rw [ap_two, h1]; simp)).symm, rfl, rfl⟩⟩
    · rw [fm_if]
      (repeat (first | with_reducible apply run_snil | (with_reducible apply is_S (.set _ _); refine run_snx (run_set ?_)) | (with_reducible apply is_S (.setO _ _); refine run_snx (run_setO ?_)) | (with_reducible apply is_S (.ext _ _); refine run_snx (run_ext rfl ?_)) | (with_reducible apply is_S (.retO _); refine run_scons (run_retO rfl rfl ?_)) | with_reducible apply run_k | with_reducible apply r_bi | with_reducible apply run_and_nil | with_reducible apply run_and_cons | with_reducible apply run_and | with_reducible apply run_tup | with_reducible apply run_lst | with_reducible apply run_nil | with_reducible apply run_cons | with_reducible apply run_anil | with_reducible apply run_acons | with_reducible apply run_ae | with_reducible apply run_seq | with_reducible apply run_lcF | (with_reducible apply is_E (.v _); refine run_v rfl ?_) | (with_reducible apply is_Bo .lt; refine bo_ltI rfl ?_) | with_reducible refine .inl ⟨rfl, ?_⟩ | with_reducible refine .inr ⟨_, rfl, ?_⟩ | refine ⟨Nat.le_of_ble_eq_true rfl, ?_⟩ | with_reducible refine ⟨rfl, ?_⟩ | with_reducible refine ⟨isCont_l, ?_⟩))
      refine r_lc ?_
      (repeat (first | with_reducible apply run_snil | (with_reducible apply is_S (.set _ _); refine run_snx (run_set ?_)) | (with_reducible apply is_S (.setO _ _); refine run_snx (run_setO ?_)) | (with_reducible apply is_S (.ext _ _); refine run_snx (run_ext rfl ?_)) | (with_reducible apply is_S (.retO _); refine run_scons (run_retO rfl rfl ?_)) | with_reducible apply run_k | with_reducible apply r_bi | with_reducible apply run_and_nil | with_reducible apply run_and_cons | with_reducible apply run_and | with_reducible apply run_tup | with_reducible apply run_lst | with_reducible apply run_nil | with_reducible apply run_cons | with_reducible apply run_anil | with_reducible apply run_acons | with_reducible apply run_ae | with_reducible apply run_seq | with_reducible apply run_lcF | (with_reducible apply is_E (.v _); refine run_v rfl ?_) | (with_reducible apply is_Bo .lt; refine bo_ltI rfl ?_) | with_reducible refine .inl ⟨rfl, ?_⟩ | with_reducible refine .inr ⟨_, rfl, ?_⟩ | refine ⟨Nat.le_of_ble_eq_true rfl, ?_⟩ | with_reducible refine ⟨rfl, ?_⟩ | with_reducible refine ⟨isCont_l, ?_⟩))
      have lf : ((srt es).filter (ap e)).length ≤ es.length := by rw [← l2]; exact List.length_filter_le _ _
      refine ⟨_, rfl, rfl, by omega, fun f => if ltd e f = true then some (pr e f) else none, fun f hf => ⟨_, rfl, ?_⟩, ?_⟩
      · have hf2 := ed2 f (List.mem_filter.mp hf).1
        (repeat (first | with_reducible apply run_snil | (with_reducible apply is_S (.set _ _); refine run_snx (run_set ?_)) | (with_reducible apply is_S (.setO _ _); refine run_snx (run_setO ?_)) | (with_reducible apply is_S (.ext _ _); refine run_snx (run_ext rfl ?_)) | (with_reducible apply is_S (.retO _); refine run_scons (run_retO rfl rfl ?_)) | with_reducible apply run_k | with_reducible apply r_bi | with_reducible apply run_and_nil | with_reducible apply run_and_cons | with_reducible apply run_and | with_reducible apply run_tup | with_reducible apply run_lst | with_reducible apply run_nil | with_reducible apply run_cons | with_reducible apply run_anil | with_reducible apply run_acons | with_reducible apply run_ae | with_reducible apply run_seq | with_reducible apply run_lcF | (with_reducible apply is_E (.v _); refine run_v rfl ?_) | (with_reducible apply is_Bo .lt; refine bo_ltI rfl ?_) | with_reducible refine .inl ⟨rfl, ?_⟩ | with_reducible refine .inr ⟨_, rfl, ?_⟩ | refine ⟨Nat.le_of_ble_eq_true rfl, ?_⟩ | with_reducible refine ⟨rfl, ?_⟩ | with_reducible refine ⟨isCont_l, ?_⟩))
        refine bo_lt rfl (ltD_ok (same_trans _ _ _ he.sh hf2.sh) he.ok.1 hf2.ok.1) ?_
        refine ⟨_, rfl, fun hc => ?_, fun hc => ?_⟩
        · (repeat (first | with_reducible apply run_snil | (with_reducible apply is_S (.set _ _); refine run_snx (run_set ?_)) | (with_reducible apply is_S (.setO _ _); refine run_snx (run_setO ?_)) | (with_reducible apply is_S (.ext _ _); refine run_snx (run_ext rfl ?_)) | (with_reducible apply is_S (.retO _); refine run_scons (run_retO rfl rfl ?_)) | with_reducible apply run_k | with_reducible apply r_bi | with_reducible apply run_and_nil | with_reducible apply run_and_cons | with_reducible apply run_and | with_reducible apply run_tup | with_reducible apply run_lst | with_reducible apply run_nil | with_reducible apply run_cons | with_reducible apply run_anil | with_reducible apply run_acons | with_reducible apply run_ae | with_reducible apply run_seq | with_reducible apply run_lcF | (with_reducible apply is_E (.v _); refine run_v rfl ?_) | (with_reducible apply is_Bo .lt; refine bo_ltI rfl ?_) | with_reducible refine .inl ⟨rfl, ?_⟩ | with_reducible refine .inr ⟨_, rfl, ?_⟩ | refine ⟨Nat.le_of_ble_eq_true rfl, ?_⟩ | with_reducible refine ⟨rfl, ?_⟩ | with_reducible refine ⟨isCont_l, ?_⟩))
          refine ⟨fun _ => ?_, fun z => nomatch z⟩
          (repeat (first | with_reducible apply run_snil | (with_reducible apply is_S (.set _ _); refine run_snx (run_set ?_)) | (with_reducible apply is_S (.setO _ _); refine run_snx (run_setO ?_)) | (with_reducible apply is_S (.ext _ _); refine run_snx (run_ext rfl ?_)) | (with_reducible apply is_S (.retO _); refine run_scons (run_retO rfl rfl ?_)) | with_reducible apply run_k | with_reducible apply r_bi | with_reducible apply run_and_nil | with_reducible apply run_and_cons | with_reducible apply run_and | with_reducible apply run_tup | with_reducible apply run_lst | with_reducible apply run_nil | with_reducible apply run_cons | with_reducible apply run_anil | with_reducible apply run_acons | with_reducible apply run_ae | with_reducible apply run_seq | with_reducible apply run_lcF | (with_reducible apply is_E (.v _); refine run_v rfl ?_) | (with_reducible apply is_Bo .lt; refine bo_ltI rfl ?_) | with_reducible refine .inl ⟨rfl, ?_⟩ | with_reducible refine .inr ⟨_, rfl, ?_⟩ | refine ⟨Nat.le_of_ble_eq_true rfl, ?_⟩ | with_reducible refine ⟨rfl, ?_⟩ | with_reducible refine ⟨isCont_l, ?_⟩))
          exact ⟨(if_pos hc).symm, rfl, rfl⟩
        · (repeat (first | with_reducible apply run_snil | (with_reducible apply is_S (.set _ _); refine run_snx (run_set ?_)) | (with_reducible apply is_S (.setO _ _); refine run_snx (run_setO ?_)) | (with_reducible apply is_S (.ext _ _); refine run_snx (run_ext rfl ?_)) | (with_reducible apply is_S (.retO _); refine run_scons (run_retO rfl rfl ?_)) | with_reducible apply run_k | with_reducible apply r_bi | with_reducible apply run_and_nil | with_reducible apply run_and_cons | with_reducible apply run_and | with_reducible apply run_tup | with_reducible apply run_lst | with_reducible apply run_nil | with_reducible apply run_cons | with_reducible apply run_anil | with_reducible apply run_acons | with_reducible apply run_ae | with_reducible apply run_seq | with_reducible apply run_lcF | (with_reducible apply is_E (.v _); refine run_v rfl ?_) | (with_reducible apply is_Bo .lt; refine bo_ltI rfl ?_) | with_reducible refine .inl ⟨rfl, ?_⟩ | with_reducible refine .inr ⟨_, rfl, ?_⟩ | refine ⟨Nat.le_of_ble_eq_true rfl, ?_⟩ | with_reducible refine ⟨rfl, ?_⟩ | with_reducible refine ⟨isCont_l, ?_⟩))
          exact ⟨(fun z => nomatch z), fun _ => ⟨(if_neg (by rw [hc]; decide)).symm, rfl, rfl⟩⟩
      · refine ⟨_, _, rfl, rfl, ?_, ?_⟩
        · have z1 := len_fm (f := fun b => if ltd e b = true then some (pr e b) else none) (l := (srt es).filter (ap e))
          have z2 := len_flat (f := lpL (srt es)) (k := es.length) (l := (srt es).take k) fun a _ => Nat.le_trans len_fm (by rw [← l2]; exact List.length_filter_le _ _)
          have z3 : ((srt es).take k).length ≤ es.length := by rw [List.length_take]; omega
          have z4 : ((srt es).take k).length * es.length ≤ 100 * 100 := Nat.mul_le_mul (by omega) hl
          omega
        · (repeat (first | with_reducible apply run_snil | (with_reducible apply is_S (.set _ _); refine run_snx (run_set ?_)) | (with_reducible apply is_S (.setO _ _); refine run_snx (run_setO ?_)) | (with_reducible apply is_S (.ext _ _); refine run_snx (run_ext rfl ?_)) | (with_reducible apply is_S (.retO _); refine run_scons (run_retO rfl rfl ?_)) | with_reducible apply run_k | with_reducible apply r_bi | with_reducible apply run_and_nil | with_reducible apply run_and_cons | with_reducible apply run_and | with_reducible apply run_tup | with_reducible apply run_lst | with_reducible apply run_nil | with_reducible apply run_cons | with_reducible apply run_anil | with_reducible apply run_acons | with_reducible apply run_ae | with_reducible apply run_seq | with_reducible apply run_lcF | (with_reducible apply is_E (.v _); refine run_v rfl ?_) | (with_reducible apply is_Bo .lt; refine bo_ltI rfl ?_) | with_reducible refine .inl ⟨rfl, ?_⟩ | with_reducible refine .inr ⟨_, rfl, ?_⟩ | refine ⟨Nat.le_of_ble_eq_true rfl, ?_⟩ | with_reducible refine ⟨rfl, ?_⟩ | with_reducible refine ⟨isCont_l, ?_⟩))
          refine ⟨.v e, .v (.lst ((srt es).filter (ap e))), ?_, nO_v _, nO_v _, rfl⟩
          rw [List.take_add_one, hk, List.flatMap_append]
          simp [lpL]
  · rintro r m' ⟨x2, x3, rfl, n2, n3, rfl⟩
    rw [List.take_length]
    (repeat (first | with_reducible apply run_snil | (with_reducible apply is_S (.set _ _); refine run_snx (run_set ?_)) | (with_reducible apply is_S (.setO _ _); refine run_snx (run_setO ?_)) | (with_reducible apply is_S (.ext _ _); refine run_snx (run_ext rfl ?_)) | (with_reducible apply is_S (.retO _); refine run_scons (run_retO rfl rfl ?_)) | with_reducible apply run_k | with_reducible apply r_bi | with_reducible apply run_and_nil | with_reducible apply run_and_cons | with_reducible apply run_and | with_reducible apply run_tup | with_reducible apply run_lst | with_reducible apply run_nil | with_reducible apply run_cons | with_reducible apply run_anil | with_reducible apply run_acons | with_reducible apply run_ae | with_reducible apply run_seq | with_reducible apply run_lcF | (with_reducible apply is_E (.v _); refine run_v rfl ?_) | (with_reducible apply is_Bo .lt; refine bo_ltI rfl ?_) | with_reducible refine .inl ⟨rfl, ?_⟩ | with_reducible refine .inr ⟨_, rfl, ?_⟩ | refine ⟨Nat.le_of_ble_eq_true rfl, ?_⟩ | with_reducible refine ⟨rfl, ?_⟩ | with_reducible refine ⟨isCont_l, ?_⟩))
    exact .inl ⟨_, rfl, rfl, rfl⟩
omit hF in
theorem fm_none {f : D → Option D} : ∀ {l : List D}, (∀ x ∈ l, f x = none) → l.filterMap f = []
  | [], _ => rfl
  | x :: l, h => by rw [List.filterMap_cons, h x List.mem_cons_self, fm_none fun y hy => h y (List.mem_cons_of_mem _ hy)]
omit hF in
theorem fm_cong {f g : D → Option D} : ∀ {l : List D}, (∀ x ∈ l, f x = g x) → l.filterMap f = l.filterMap g
  | [], _ => rfl
  | x :: l, h => by rw [List.filterMap_cons, List.filterMap_cons, h x List.mem_cons_self, fm_cong fun y hy => h y (List.mem_cons_of_mem _ hy)]
omit hF in
/-- both ways to list the pairs agree -/
theorem lp_eq : ∀ (suf pre : List D), (pre ++ suf).Pairwise (fun a b => ltd a b = true) → suf.flatMap (lpL (pre ++ suf)) = prL suf
  | [], _, _ => rfl
  | e :: suf, pre, h => by
    have ih := lp_eq suf (pre ++ [e]) (by simpa using h)
    rw [List.append_assoc] at ih
    have ih : suf.flatMap (lpL (pre ++ e :: suf)) = prL suf := ih
    rw [List.flatMap_cons, ih, prL]
    refine congrArg (· ++ prL suf) ?_
    obtain ⟨h1, h2, h3⟩ := List.pairwise_append.mp h
    obtain ⟨h4, h5⟩ := List.pairwise_cons.mp h2
    unfold lpL
    rw [List.filterMap_filter, List.filterMap_append, List.filterMap_cons]
    have no1 : (pre.filterMap fun x => if ap e x = true then (if ltd e x = true then some (pr e x) else none) else none) = [] := fm_none fun x hx => by
      rw [if_neg (c := ltd e x = true) (by rw [ltd_asymm (h3 x hx e List.mem_cons_self)]; decide)]
      split <;> rfl
    rw [no1, List.nil_append, if_neg (c := ltd e e = true) (by rw [ltd_self]; decide)]
    have z : (if ap e e = true then (none : Option D) else none) = none := by split <;> rfl
    rw [z]
    exact fm_cong fun x hx => by rw [if_pos (h4 x hx)]
end
end P
end
section
set_option maxRecDepth 100000
namespace P
open PySem Mi
theorem bo_lenS {r : List Sl} {m : List D} {os : List Op} {x : Str} {Q : D → Prop} (e1 : opsD r os = some [.str x]) (h : x.length ≤ 1000) (q : Q (.int x.length)) : Bo m .len r os Q := ⟨_, _, e1, if_pos h, q⟩
def lett : D → Bool
  | .str c => strHas "abcdefghijklmnopqrstuvwxyz" c
  | _ => false
theorem chars_len (t : Str) : (charsOf t).length = t.length := by
  unfold charsOf
  rw [List.length_map]
  rfl
theorem nm_short {t : Str} (h : isNm t = true) : t.length ≤ 8 := by
  unfold isNm at h
  simp only [Bool.and_eq_true, decide_eq_true_eq] at h
  omega
section
variable {F : Nat → Option Fn} {ini : Str → Option Nat} {W : Nat} (hF : ∀ f d, FB f = some d → F f = some d)
include hF
theorem s_name {n : Nat} {m : List D} {t : Str} (ht : t.length ≤ 1000) : RunC (call F ini W (n + 1) 67 [.str t] m) fun d m' => d = .bl (isNm t) ∧ m' = m := by
  refine run_def (r := [.v (.str t), .un]) (hF _ _ rfl) (by intro c h; cases h) rfl rfl ?_
  dsimp only [d_is_name]
  (repeat (first | with_reducible apply run_snil | (with_reducible apply is_S (.ret _); refine run_scons (run_ret ?_)) | with_reducible apply run_k | with_reducible apply run_gl | with_reducible apply r_bi | with_reducible apply run_and_nil | with_reducible apply run_and_cons | with_reducible apply run_and | with_reducible apply run_nil | with_reducible apply run_cons | with_reducible apply run_anil | with_reducible apply run_acons | with_reducible apply run_ae | with_reducible apply run_isi | with_reducible apply run_chain | with_reducible apply run_seq | with_reducible apply run_lcF | (with_reducible apply is_E (.v _); refine run_v rfl ?_) | (with_reducible apply is_Bo .len; refine bo_len rfl rfl ?_) | with_reducible refine .inl ⟨rfl, ?_⟩ | with_reducible refine .inr ⟨_, rfl, ?_⟩ | refine ⟨Nat.le_of_ble_eq_true rfl, ?_⟩ | with_reducible refine ⟨rfl, ?_⟩ | with_reducible refine ⟨isCont_l, ?_⟩))
  refine ⟨_, _, rfl, rfl, ?_⟩
  refine ⟨_, rfl, fun _ => ?_, fun z => nomatch z⟩
  (repeat (first | with_reducible apply run_snil | (with_reducible apply is_S (.ret _); refine run_scons (run_ret ?_)) | with_reducible apply run_k | with_reducible apply run_gl | with_reducible apply r_bi | with_reducible apply run_and_nil | with_reducible apply run_and_cons | with_reducible apply run_and | with_reducible apply run_nil | with_reducible apply run_cons | with_reducible apply run_anil | with_reducible apply run_acons | with_reducible apply run_ae | with_reducible apply run_isi | with_reducible apply run_chain | with_reducible apply run_seq | with_reducible apply run_lcF | (with_reducible apply is_E (.v _); refine run_v rfl ?_) | (with_reducible apply is_Bo .len; refine bo_len rfl rfl ?_) | with_reducible refine .inl ⟨rfl, ?_⟩ | with_reducible refine .inr ⟨_, rfl, ?_⟩ | refine ⟨Nat.le_of_ble_eq_true rfl, ?_⟩ | with_reducible refine ⟨rfl, ?_⟩ | with_reducible refine ⟨isCont_l, ?_⟩))
  refine bo_lenS rfl ht ?_
  refine ⟨_, rfl, fun h1 => ?_, fun h1 => ?_⟩
  · (repeat (first | with_reducible apply run_snil | (with_reducible apply is_S (.ret _); refine run_scons (run_ret ?_)) | with_reducible apply run_k | with_reducible apply run_gl | with_reducible apply r_bi | with_reducible apply run_and_nil | with_reducible apply run_and_cons | with_reducible apply run_and | with_reducible apply run_nil | with_reducible apply run_cons | with_reducible apply run_anil | with_reducible apply run_acons | with_reducible apply run_ae | with_reducible apply run_isi | with_reducible apply run_chain | with_reducible apply run_seq | with_reducible apply run_lcF | (with_reducible apply is_E (.v _); refine run_v rfl ?_) | (with_reducible apply is_Bo .len; refine bo_len rfl rfl ?_) | with_reducible refine .inl ⟨rfl, ?_⟩ | with_reducible refine .inr ⟨_, rfl, ?_⟩ | refine ⟨Nat.le_of_ble_eq_true rfl, ?_⟩ | with_reducible refine ⟨rfl, ?_⟩ | with_reducible refine ⟨isCont_l, ?_⟩))
    refine ⟨_, rfl, ?_⟩
    refine ⟨_, rfl, fun h2 => ?_, fun h2 => ?_⟩
    · (repeat (first | with_reducible apply run_snil | (with_reducible apply is_S (.ret _); refine run_scons (run_ret ?_)) | with_reducible apply run_k | with_reducible apply run_gl | with_reducible apply r_bi | with_reducible apply run_and_nil | with_reducible apply run_and_cons | with_reducible apply run_and | with_reducible apply run_nil | with_reducible apply run_cons | with_reducible apply run_anil | with_reducible apply run_acons | with_reducible apply run_ae | with_reducible apply run_isi | with_reducible apply run_chain | with_reducible apply run_seq | with_reducible apply run_lcF | (with_reducible apply is_E (.v _); refine run_v rfl ?_) | (with_reducible apply is_Bo .len; refine bo_len rfl rfl ?_) | with_reducible refine .inl ⟨rfl, ?_⟩ | with_reducible refine .inr ⟨_, rfl, ?_⟩ | refine ⟨Nat.le_of_ble_eq_true rfl, ?_⟩ | with_reducible refine ⟨rfl, ?_⟩ | with_reducible refine ⟨isCont_l, ?_⟩))
      refine r_lc ?_
      (repeat (first | with_reducible apply run_snil | (with_reducible apply is_S (.ret _); refine run_scons (run_ret ?_)) | with_reducible apply run_k | with_reducible apply run_gl | with_reducible apply r_bi | with_reducible apply run_and_nil | with_reducible apply run_and_cons | with_reducible apply run_and | with_reducible apply run_nil | with_reducible apply run_cons | with_reducible apply run_anil | with_reducible apply run_acons | with_reducible apply run_ae | with_reducible apply run_isi | with_reducible apply run_chain | with_reducible apply run_seq | with_reducible apply run_lcF | (with_reducible apply is_E (.v _); refine run_v rfl ?_) | (with_reducible apply is_Bo .len; refine bo_len rfl rfl ?_) | with_reducible refine .inl ⟨rfl, ?_⟩ | with_reducible refine .inr ⟨_, rfl, ?_⟩ | refine ⟨Nat.le_of_ble_eq_true rfl, ?_⟩ | with_reducible refine ⟨rfl, ?_⟩ | with_reducible refine ⟨isCont_l, ?_⟩))
      refine ⟨_, rfl, rfl, by rw [chars_len]; omega, fun x => some (.bl (lett x)), fun x hx => ⟨_, rfl, ?_⟩, ?_⟩
      · obtain ⟨c, _, rfl⟩ := List.mem_map.mp hx
        (repeat (first | with_reducible apply run_snil | (with_reducible apply is_S (.ret _); refine run_scons (run_ret ?_)) | with_reducible apply run_k | with_reducible apply run_gl | with_reducible apply r_bi | with_reducible apply run_and_nil | with_reducible apply run_and_cons | with_reducible apply run_and | with_reducible apply run_nil | with_reducible apply run_cons | with_reducible apply run_anil | with_reducible apply run_acons | with_reducible apply run_ae | with_reducible apply run_isi | with_reducible apply run_chain | with_reducible apply run_seq | with_reducible apply run_lcF | (with_reducible apply is_E (.v _); refine run_v rfl ?_) | (with_reducible apply is_Bo .len; refine bo_len rfl rfl ?_) | with_reducible refine .inl ⟨rfl, ?_⟩ | with_reducible refine .inr ⟨_, rfl, ?_⟩ | refine ⟨Nat.le_of_ble_eq_true rfl, ?_⟩ | with_reducible refine ⟨rfl, ?_⟩ | with_reducible refine ⟨isCont_l, ?_⟩))
        refine ⟨fun _ => ?_, fun z => nomatch z⟩
        (repeat (first | with_reducible apply run_snil | (with_reducible apply is_S (.ret _); refine run_scons (run_ret ?_)) | with_reducible apply run_k | with_reducible apply run_gl | with_reducible apply r_bi | with_reducible apply run_and_nil | with_reducible apply run_and_cons | with_reducible apply run_and | with_reducible apply run_nil | with_reducible apply run_cons | with_reducible apply run_anil | with_reducible apply run_acons | with_reducible apply run_ae | with_reducible apply run_isi | with_reducible apply run_chain | with_reducible apply run_seq | with_reducible apply run_lcF | (with_reducible apply is_E (.v _); refine run_v rfl ?_) | (with_reducible apply is_Bo .len; refine bo_len rfl rfl ?_) | with_reducible refine .inl ⟨rfl, ?_⟩ | with_reducible refine .inr ⟨_, rfl, ?_⟩ | refine ⟨Nat.le_of_ble_eq_true rfl, ?_⟩ | with_reducible refine ⟨rfl, ?_⟩ | with_reducible refine ⟨isCont_l, ?_⟩))
        refine bo_letter rfl rfl ?_
        exact ⟨rfl, rfl, rfl⟩
      · (repeat (first | with_reducible apply run_snil | (with_reducible apply is_S (.ret _); refine run_scons (run_ret ?_)) | with_reducible apply run_k | with_reducible apply run_gl | with_reducible apply r_bi | with_reducible apply run_and_nil | with_reducible apply run_and_cons | with_reducible apply run_and | with_reducible apply run_nil | with_reducible apply run_cons | with_reducible apply run_anil | with_reducible apply run_acons | with_reducible apply run_ae | with_reducible apply run_isi | with_reducible apply run_chain | with_reducible apply run_seq | with_reducible apply run_lcF | (with_reducible apply is_E (.v _); refine run_v rfl ?_) | (with_reducible apply is_Bo .len; refine bo_len rfl rfl ?_) | with_reducible refine .inl ⟨rfl, ?_⟩ | with_reducible refine .inr ⟨_, rfl, ?_⟩ | refine ⟨Nat.le_of_ble_eq_true rfl, ?_⟩ | with_reducible refine ⟨rfl, ?_⟩ | with_reducible refine ⟨isCont_l, ?_⟩))
        refine bo_all (xs := (charsOf t).filterMap fun x => some (.bl (lett x))) rfl rfl allB_fm ?_
        refine ⟨_, rfl, fun h3 => ?_, fun h3 => ?_⟩
        all_goals
          (repeat (first | with_reducible apply run_snil | (with_reducible apply is_S (.ret _); refine run_scons (run_ret ?_)) | with_reducible apply run_k | with_reducible apply run_gl | with_reducible apply r_bi | with_reducible apply run_and_nil | with_reducible apply run_and_cons | with_reducible apply run_and | with_reducible apply run_nil | with_reducible apply run_cons | with_reducible apply run_anil | with_reducible apply run_acons | with_reducible apply run_ae | with_reducible apply run_isi | with_reducible apply run_chain | with_reducible apply run_seq | with_reducible apply run_lcF | (with_reducible apply is_E (.v _); refine run_v rfl ?_) | (with_reducible apply is_Bo .len; refine bo_len rfl rfl ?_) | with_reducible refine .inl ⟨rfl, ?_⟩ | with_reducible refine .inr ⟨_, rfl, ?_⟩ | refine ⟨Nat.le_of_ble_eq_true rfl, ?_⟩ | with_reducible refine ⟨rfl, ?_⟩ | with_reducible refine ⟨isCont_l, ?_⟩))
          refine .inl ⟨_, rfl, ?_, rfl⟩
          unfold isNm
          rw [charsOf, List.all_map] at h3
          have h3 : (t.cps.toList.all fun c => strHas "abcdefghijklmnopqrstuvwxyz" ⟨#[c]⟩) = _ := h3
          rw [h1, h2, h3]
          rfl
    · (repeat (first | with_reducible apply run_snil | (with_reducible apply is_S (.ret _); refine run_scons (run_ret ?_)) | with_reducible apply run_k | with_reducible apply run_gl | with_reducible apply r_bi | with_reducible apply run_and_nil | with_reducible apply run_and_cons | with_reducible apply run_and | with_reducible apply run_nil | with_reducible apply run_cons | with_reducible apply run_anil | with_reducible apply run_acons | with_reducible apply run_ae | with_reducible apply run_isi | with_reducible apply run_chain | with_reducible apply run_seq | with_reducible apply run_lcF | (with_reducible apply is_E (.v _); refine run_v rfl ?_) | (with_reducible apply is_Bo .len; refine bo_len rfl rfl ?_) | with_reducible refine .inl ⟨rfl, ?_⟩ | with_reducible refine .inr ⟨_, rfl, ?_⟩ | refine ⟨Nat.le_of_ble_eq_true rfl, ?_⟩ | with_reducible refine ⟨rfl, ?_⟩ | with_reducible refine ⟨isCont_l, ?_⟩))
      refine .inl ⟨_, rfl, ?_, rfl⟩
      unfold isNm
      rw [h1, h2]
      rfl
  · refine ⟨_, rfl, (fun z => nomatch z), fun _ => ?_⟩
    (repeat (first | with_reducible apply run_snil | (with_reducible apply is_S (.ret _); refine run_scons (run_ret ?_)) | with_reducible apply run_k | with_reducible apply run_gl | with_reducible apply r_bi | with_reducible apply run_and_nil | with_reducible apply run_and_cons | with_reducible apply run_and | with_reducible apply run_nil | with_reducible apply run_cons | with_reducible apply run_anil | with_reducible apply run_acons | with_reducible apply run_ae | with_reducible apply run_isi | with_reducible apply run_chain | with_reducible apply run_seq | with_reducible apply run_lcF | (with_reducible apply is_E (.v _); refine run_v rfl ?_) | (with_reducible apply is_Bo .len; refine bo_len rfl rfl ?_) | with_reducible refine .inl ⟨rfl, ?_⟩ | with_reducible refine .inr ⟨_, rfl, ?_⟩ | refine ⟨Nat.le_of_ble_eq_true rfl, ?_⟩ | with_reducible refine ⟨rfl, ?_⟩ | with_reducible refine ⟨isCont_l, ?_⟩))
    refine .inl ⟨_, rfl, ?_, rfl⟩
    unfold isNm
    rw [h1]
    rfl
theorem s_row {n : Nat} {m : List D} {x : D} {xs : List D} (h : Row x xs) : RunC (call F ini W (n + 1) 77 [x] m) fun d m' => d = .bl true ∧ m' = m := by
  refine run_def (r := [.v x]) (hF _ _ rfl) (by intro c h; cases h) rfl rfl ?_
  dsimp only [d_is_row]
  (repeat (first | with_reducible apply run_snil | (with_reducible apply is_S (.ret _); refine run_scons (run_ret ?_)) | with_reducible apply run_nil | with_reducible apply run_cons | with_reducible apply run_ae | with_reducible apply run_isi | (with_reducible apply is_E (.v _); refine run_v rfl ?_) | with_reducible refine .inl ⟨rfl, ?_⟩ | with_reducible refine .inr ⟨_, rfl, ?_⟩ | refine ⟨Nat.le_of_ble_eq_true rfl, ?_⟩ | with_reducible refine ⟨rfl, ?_⟩ | with_reducible refine ⟨isCont_l, ?_⟩))
  cases h with
  | t => exact ⟨_, _, rfl, rfl, .inr ⟨_, rfl, .inl ⟨_, rfl, rfl, rfl⟩⟩⟩
  | l => exact ⟨_, _, rfl, rfl, .inr ⟨_, rfl, .inl ⟨_, rfl, rfl, rfl⟩⟩⟩
omit hF in
theorem nodup_dd : ∀ {xs : List D}, xs.Nodup → dedup xs = xs
  | [], _ => rfl
  | x :: xs, h => by
    obtain ⟨h1, h2⟩ := List.nodup_cons.mp h
    unfold dedup
    rw [nodup_dd h2, List.filter_eq_self.mpr fun y hy => by
      have : ¬ y = x := fun e => h1 (e ▸ hy)
      simp [this]]
omit hF in
theorem all_tt {f : D → Bool} {xs : List D} (h : ∀ x ∈ xs, f x = true) : xs.all f = true := List.all_eq_true.mpr h
omit hF in
theorem hash_of {xs : List D} (h : ∀ x ∈ xs, hashable x = true) : hashables xs = true := by
  induction xs with
  | nil => rfl
  | cons x xs ih =>
    simp only [hashables, h x List.mem_cons_self, ih fun y hy => h y (List.mem_cons_of_mem _ hy), Bool.and_self]
omit hF in
theorem kdeps_of {xs : List D} {n : Nat} (h : ∀ x ∈ xs, kdep x ≤ n) : kdeps xs ≤ n := by
  induction xs with
  | nil => exact Nat.zero_le _
  | cons x xs ih =>
    have a := h x List.mem_cons_self
    have b := ih fun y hy => h y (List.mem_cons_of_mem _ hy)
    simp only [kdeps]
    omega
omit hF in
theorem set_names {ns : List D} (h : ∀ d ∈ ns, Nm d) (hl : ns.length ≤ 300) : setOk ns = true := by
  unfold setOk
  have a : ns.all isStr = true := all_tt fun x hx => by obtain ⟨t, rfl, _⟩ := h x hx; rfl
  have b : hashables ns = true := hash_of fun x hx => by obtain ⟨t, rfl, _⟩ := h x hx; rfl
  have c : kdeps ns ≤ 8 := kdeps_of fun x hx => by obtain ⟨t, rfl, _⟩ := h x hx; exact Nat.zero_le _
  rw [a, b]
  simp [c, hl]
omit hF in
theorem set_edges {es : List D} (h : ∀ d ∈ es, Ed d) (hl : es.length ≤ 300) : setOk es = true := by
  unfold setOk
  have a : es.all isTup = true := all_tt fun x hx => by obtain ⟨a, b, rfl, _⟩ := h x hx; rfl
  have b : hashables es = true := hash_of fun x hx => by obtain ⟨_, _, rfl, ⟨t, rfl, _⟩, ⟨u, rfl, _⟩, _⟩ := h x hx; rfl
  have c : kdeps es ≤ 8 := kdeps_of fun x hx => by obtain ⟨_, _, rfl, ⟨t, rfl, _⟩, ⟨u, rfl, _⟩, _⟩ := h x hx; simp [kdep, kdeps]
  rw [a, b]
  simp [c, hl]
theorem s_vertices {n : Nat} {m : List D} {x : D} {ns : List D} (hx : Row x ns) (v : Vs ns) : RunC (call F ini W (n + 2) 23 [x] m) fun d m' => d = .bl true ∧ m' = m := by
  refine run_def (r := [.v x, .un]) (hF _ _ rfl) (by intro c h; cases h) rfl rfl ?_
  dsimp only [d_are_vertices]
  (repeat (first | with_reducible apply run_snil | (with_reducible apply is_S (.ret _); refine run_scons (run_ret ?_)) | (with_reducible apply is_S (.ite _ _ _); refine run_scons (run_ite ?_)) | with_reducible apply run_k | with_reducible apply run_gl | with_reducible apply r_bi | with_reducible apply run_and_nil | with_reducible apply run_or_nil | with_reducible apply run_and_cons | with_reducible apply run_or_cons | with_reducible apply run_and | with_reducible apply run_or | with_reducible apply run_not | with_reducible apply run_nil | with_reducible apply run_cons | with_reducible apply run_anil | with_reducible apply run_acons | with_reducible apply run_ae | with_reducible apply r_call | with_reducible apply run_chain | with_reducible apply run_seq | with_reducible apply run_lcF | (with_reducible apply is_E (.v _); refine run_v rfl ?_) | (with_reducible apply is_Bo .len; refine bo_len rfl rfl ?_) | with_reducible refine .inl ⟨rfl, ?_⟩ | with_reducible refine .inr ⟨_, rfl, ?_⟩ | refine ⟨Nat.le_of_ble_eq_true rfl, ?_⟩ | with_reducible refine ⟨rfl, ?_⟩ | with_reducible refine ⟨isCont_l, ?_⟩))
  refine (s_row hF (n := n) hx).imp fun d m2 ⟨e1, e2⟩ => ?_
  subst e1 e2
  refine ⟨_, rfl, ?_⟩
  refine ⟨_, rfl, fun _ => ?_, fun z => nomatch z⟩
  (repeat (first | with_reducible apply run_snil | (with_reducible apply is_S (.ret _); refine run_scons (run_ret ?_)) | (with_reducible apply is_S (.ite _ _ _); refine run_scons (run_ite ?_)) | with_reducible apply run_k | with_reducible apply run_gl | with_reducible apply r_bi | with_reducible apply run_and_nil | with_reducible apply run_or_nil | with_reducible apply run_and_cons | with_reducible apply run_or_cons | with_reducible apply run_and | with_reducible apply run_or | with_reducible apply run_not | with_reducible apply run_nil | with_reducible apply run_cons | with_reducible apply run_anil | with_reducible apply run_acons | with_reducible apply run_ae | with_reducible apply r_call | with_reducible apply run_chain | with_reducible apply run_seq | with_reducible apply run_lcF | (with_reducible apply is_E (.v _); refine run_v rfl ?_) | (with_reducible apply is_Bo .len; refine bo_len rfl rfl ?_) | with_reducible refine .inl ⟨rfl, ?_⟩ | with_reducible refine .inr ⟨_, rfl, ?_⟩ | refine ⟨Nat.le_of_ble_eq_true rfl, ?_⟩ | with_reducible refine ⟨rfl, ?_⟩ | with_reducible refine ⟨isCont_l, ?_⟩))
  refine bo_len rfl hx.seq ?_
  have lo := v.lo
  have hi := v.hi
  refine ⟨_, rfl, fun h1 => ?_, fun h1 => ?_⟩
  · (repeat (first | with_reducible apply run_snil | (with_reducible apply is_S (.ret _); refine run_scons (run_ret ?_)) | (with_reducible apply is_S (.ite _ _ _); refine run_scons (run_ite ?_)) | with_reducible apply run_k | with_reducible apply run_gl | with_reducible apply r_bi | with_reducible apply run_and_nil | with_reducible apply run_or_nil | with_reducible apply run_and_cons | with_reducible apply run_or_cons | with_reducible apply run_and | with_reducible apply run_or | with_reducible apply run_not | with_reducible apply run_nil | with_reducible apply run_cons | with_reducible apply run_anil | with_reducible apply run_acons | with_reducible apply run_ae | with_reducible apply r_call | with_reducible apply run_chain | with_reducible apply run_seq | with_reducible apply run_lcF | (with_reducible apply is_E (.v _); refine run_v rfl ?_) | (with_reducible apply is_Bo .len; refine bo_len rfl rfl ?_) | with_reducible refine .inl ⟨rfl, ?_⟩ | with_reducible refine .inr ⟨_, rfl, ?_⟩ | refine ⟨Nat.le_of_ble_eq_true rfl, ?_⟩ | with_reducible refine ⟨rfl, ?_⟩ | with_reducible refine ⟨isCont_l, ?_⟩))
    refine ⟨_, rfl, ?_⟩
    have e : decide ((ns.length : Int) ≤ 8) = true := decide_eq_true (by omega)
    rw [e]
    refine ⟨_, rfl, ?_⟩
    refine ⟨_, rfl, fun _ => ?_, fun z => nomatch z⟩
    (repeat (first | with_reducible apply run_snil | (with_reducible apply is_S (.ret _); refine run_scons (run_ret ?_)) | (with_reducible apply is_S (.ite _ _ _); refine run_scons (run_ite ?_)) | with_reducible apply run_k | with_reducible apply run_gl | with_reducible apply r_bi | with_reducible apply run_and_nil | with_reducible apply run_or_nil | with_reducible apply run_and_cons | with_reducible apply run_or_cons | with_reducible apply run_and | with_reducible apply run_or | with_reducible apply run_not | with_reducible apply run_nil | with_reducible apply run_cons | with_reducible apply run_anil | with_reducible apply run_acons | with_reducible apply run_ae | with_reducible apply r_call | with_reducible apply run_chain | with_reducible apply run_seq | with_reducible apply run_lcF | (with_reducible apply is_E (.v _); refine run_v rfl ?_) | (with_reducible apply is_Bo .len; refine bo_len rfl rfl ?_) | with_reducible refine .inl ⟨rfl, ?_⟩ | with_reducible refine .inr ⟨_, rfl, ?_⟩ | refine ⟨Nat.le_of_ble_eq_true rfl, ?_⟩ | with_reducible refine ⟨rfl, ?_⟩ | with_reducible refine ⟨isCont_l, ?_⟩))
    refine ⟨_, rfl, (fun z => nomatch z), fun _ => ?_⟩
    (repeat (first | with_reducible apply run_snil | (with_reducible apply is_S (.ret _); refine run_scons (run_ret ?_)) | (with_reducible apply is_S (.ite _ _ _); refine run_scons (run_ite ?_)) | with_reducible apply run_k | with_reducible apply run_gl | with_reducible apply r_bi | with_reducible apply run_and_nil | with_reducible apply run_or_nil | with_reducible apply run_and_cons | with_reducible apply run_or_cons | with_reducible apply run_and | with_reducible apply run_or | with_reducible apply run_not | with_reducible apply run_nil | with_reducible apply run_cons | with_reducible apply run_anil | with_reducible apply run_acons | with_reducible apply run_ae | with_reducible apply r_call | with_reducible apply run_chain | with_reducible apply run_seq | with_reducible apply run_lcF | (with_reducible apply is_E (.v _); refine run_v rfl ?_) | (with_reducible apply is_Bo .len; refine bo_len rfl rfl ?_) | with_reducible refine .inl ⟨rfl, ?_⟩ | with_reducible refine .inr ⟨_, rfl, ?_⟩ | refine ⟨Nat.le_of_ble_eq_true rfl, ?_⟩ | with_reducible refine ⟨rfl, ?_⟩ | with_reducible refine ⟨isCont_l, ?_⟩))
    refine r_lc ?_
    (repeat (first | with_reducible apply run_snil | (with_reducible apply is_S (.ret _); refine run_scons (run_ret ?_)) | (with_reducible apply is_S (.ite _ _ _); refine run_scons (run_ite ?_)) | with_reducible apply run_k | with_reducible apply run_gl | with_reducible apply r_bi | with_reducible apply run_and_nil | with_reducible apply run_or_nil | with_reducible apply run_and_cons | with_reducible apply run_or_cons | with_reducible apply run_and | with_reducible apply run_or | with_reducible apply run_not | with_reducible apply run_nil | with_reducible apply run_cons | with_reducible apply run_anil | with_reducible apply run_acons | with_reducible apply run_ae | with_reducible apply r_call | with_reducible apply run_chain | with_reducible apply run_seq | with_reducible apply run_lcF | (with_reducible apply is_E (.v _); refine run_v rfl ?_) | (with_reducible apply is_Bo .len; refine bo_len rfl rfl ?_) | with_reducible refine .inl ⟨rfl, ?_⟩ | with_reducible refine .inr ⟨_, rfl, ?_⟩ | refine ⟨Nat.le_of_ble_eq_true rfl, ?_⟩ | with_reducible refine ⟨rfl, ?_⟩ | with_reducible refine ⟨isCont_l, ?_⟩))
    refine ⟨_, by cases hx <;> rfl, rfl, by omega, fun x => some (.bl true), fun a ha => ⟨_, rfl, ?_⟩, ?_⟩
    · obtain ⟨t, rfl, ht⟩ := v.nm a ha
      (repeat (first | with_reducible apply run_snil | (with_reducible apply is_S (.ret _); refine run_scons (run_ret ?_)) | (with_reducible apply is_S (.ite _ _ _); refine run_scons (run_ite ?_)) | with_reducible apply run_k | with_reducible apply run_gl | with_reducible apply r_bi | with_reducible apply run_and_nil | with_reducible apply run_or_nil | with_reducible apply run_and_cons | with_reducible apply run_or_cons | with_reducible apply run_and | with_reducible apply run_or | with_reducible apply run_not | with_reducible apply run_nil | with_reducible apply run_cons | with_reducible apply run_anil | with_reducible apply run_acons | with_reducible apply run_ae | with_reducible apply r_call | with_reducible apply run_chain | with_reducible apply run_seq | with_reducible apply run_lcF | (with_reducible apply is_E (.v _); refine run_v rfl ?_) | (with_reducible apply is_Bo .len; refine bo_len rfl rfl ?_) | with_reducible refine .inl ⟨rfl, ?_⟩ | with_reducible refine .inr ⟨_, rfl, ?_⟩ | refine ⟨Nat.le_of_ble_eq_true rfl, ?_⟩ | with_reducible refine ⟨rfl, ?_⟩ | with_reducible refine ⟨isCont_l, ?_⟩))
      refine ⟨fun _ => ?_, fun z => nomatch z⟩
      (repeat (first | with_reducible apply run_snil | (with_reducible apply is_S (.ret _); refine run_scons (run_ret ?_)) | (with_reducible apply is_S (.ite _ _ _); refine run_scons (run_ite ?_)) | with_reducible apply run_k | with_reducible apply run_gl | with_reducible apply r_bi | with_reducible apply run_and_nil | with_reducible apply run_or_nil | with_reducible apply run_and_cons | with_reducible apply run_or_cons | with_reducible apply run_and | with_reducible apply run_or | with_reducible apply run_not | with_reducible apply run_nil | with_reducible apply run_cons | with_reducible apply run_anil | with_reducible apply run_acons | with_reducible apply run_ae | with_reducible apply r_call | with_reducible apply run_chain | with_reducible apply run_seq | with_reducible apply run_lcF | (with_reducible apply is_E (.v _); refine run_v rfl ?_) | (with_reducible apply is_Bo .len; refine bo_len rfl rfl ?_) | with_reducible refine .inl ⟨rfl, ?_⟩ | with_reducible refine .inr ⟨_, rfl, ?_⟩ | refine ⟨Nat.le_of_ble_eq_true rfl, ?_⟩ | with_reducible refine ⟨rfl, ?_⟩ | with_reducible refine ⟨isCont_l, ?_⟩))
      refine (s_name hF (n := n) (by have := nm_short ht; omega)).imp fun d m2 ⟨e1, e2⟩ => ?_
      subst e1 e2
      rw [ht]
      exact ⟨rfl, rfl, rfl⟩
    · (repeat (first | with_reducible apply run_snil | (with_reducible apply is_S (.ret _); refine run_scons (run_ret ?_)) | (with_reducible apply is_S (.ite _ _ _); refine run_scons (run_ite ?_)) | with_reducible apply run_k | with_reducible apply run_gl | with_reducible apply r_bi | with_reducible apply run_and_nil | with_reducible apply run_or_nil | with_reducible apply run_and_cons | with_reducible apply run_or_cons | with_reducible apply run_and | with_reducible apply run_or | with_reducible apply run_not | with_reducible apply run_nil | with_reducible apply run_cons | with_reducible apply run_anil | with_reducible apply run_acons | with_reducible apply run_ae | with_reducible apply r_call | with_reducible apply run_chain | with_reducible apply run_seq | with_reducible apply run_lcF | (with_reducible apply is_E (.v _); refine run_v rfl ?_) | (with_reducible apply is_Bo .len; refine bo_len rfl rfl ?_) | with_reducible refine .inl ⟨rfl, ?_⟩ | with_reducible refine .inr ⟨_, rfl, ?_⟩ | refine ⟨Nat.le_of_ble_eq_true rfl, ?_⟩ | with_reducible refine ⟨rfl, ?_⟩ | with_reducible refine ⟨isCont_l, ?_⟩))
      refine bo_all (xs := ns.filterMap fun x => some (.bl ((fun _ => true) x))) rfl rfl allB_fm ?_
      refine ⟨_, rfl, fun _ => ?_, fun z => ?_⟩
      · (repeat (first | with_reducible apply run_snil | (with_reducible apply is_S (.ret _); refine run_scons (run_ret ?_)) | (with_reducible apply is_S (.ite _ _ _); refine run_scons (run_ite ?_)) | with_reducible apply run_k | with_reducible apply run_gl | with_reducible apply r_bi | with_reducible apply run_and_nil | with_reducible apply run_or_nil | with_reducible apply run_and_cons | with_reducible apply run_or_cons | with_reducible apply run_and | with_reducible apply run_or | with_reducible apply run_not | with_reducible apply run_nil | with_reducible apply run_cons | with_reducible apply run_anil | with_reducible apply run_acons | with_reducible apply run_ae | with_reducible apply r_call | with_reducible apply run_chain | with_reducible apply run_seq | with_reducible apply run_lcF | (with_reducible apply is_E (.v _); refine run_v rfl ?_) | (with_reducible apply is_Bo .len; refine bo_len rfl rfl ?_) | with_reducible refine .inl ⟨rfl, ?_⟩ | with_reducible refine .inr ⟨_, rfl, ?_⟩ | refine ⟨Nat.le_of_ble_eq_true rfl, ?_⟩ | with_reducible refine ⟨rfl, ?_⟩ | with_reducible refine ⟨isCont_l, ?_⟩))
        refine bo_lset rfl hx.seq (set_names v.nm (by omega)) ?_
        (repeat (first | with_reducible apply run_snil | (with_reducible apply is_S (.ret _); refine run_scons (run_ret ?_)) | (with_reducible apply is_S (.ite _ _ _); refine run_scons (run_ite ?_)) | with_reducible apply run_k | with_reducible apply run_gl | with_reducible apply r_bi | with_reducible apply run_and_nil | with_reducible apply run_or_nil | with_reducible apply run_and_cons | with_reducible apply run_or_cons | with_reducible apply run_and | with_reducible apply run_or | with_reducible apply run_not | with_reducible apply run_nil | with_reducible apply run_cons | with_reducible apply run_anil | with_reducible apply run_acons | with_reducible apply run_ae | with_reducible apply r_call | with_reducible apply run_chain | with_reducible apply run_seq | with_reducible apply run_lcF | (with_reducible apply is_E (.v _); refine run_v rfl ?_) | (with_reducible apply is_Bo .len; refine bo_len rfl rfl ?_) | with_reducible refine .inl ⟨rfl, ?_⟩ | with_reducible refine .inr ⟨_, rfl, ?_⟩ | refine ⟨Nat.le_of_ble_eq_true rfl, ?_⟩ | with_reducible refine ⟨rfl, ?_⟩ | with_reducible refine ⟨isCont_l, ?_⟩))
        refine bo_len rfl hx.seq ?_
        (repeat (first | with_reducible apply run_snil | (with_reducible apply is_S (.ret _); refine run_scons (run_ret ?_)) | (with_reducible apply is_S (.ite _ _ _); refine run_scons (run_ite ?_)) | with_reducible apply run_k | with_reducible apply run_gl | with_reducible apply r_bi | with_reducible apply run_and_nil | with_reducible apply run_or_nil | with_reducible apply run_and_cons | with_reducible apply run_or_cons | with_reducible apply run_and | with_reducible apply run_or | with_reducible apply run_not | with_reducible apply run_nil | with_reducible apply run_cons | with_reducible apply run_anil | with_reducible apply run_acons | with_reducible apply run_ae | with_reducible apply r_call | with_reducible apply run_chain | with_reducible apply run_seq | with_reducible apply run_lcF | (with_reducible apply is_E (.v _); refine run_v rfl ?_) | (with_reducible apply is_Bo .len; refine bo_len rfl rfl ?_) | with_reducible refine .inl ⟨rfl, ?_⟩ | with_reducible refine .inr ⟨_, rfl, ?_⟩ | refine ⟨Nat.le_of_ble_eq_true rfl, ?_⟩ | with_reducible refine ⟨rfl, ?_⟩ | with_reducible refine ⟨isCont_l, ?_⟩))
        refine bo_eq rfl rfl rfl (eqD_ok (ok_int _) (ok_int _)) ?_
        rw [nodup_dd v.nd]
        refine ⟨_, rfl, fun _ => ?_, fun z => ?_⟩
        · (repeat (first | with_reducible apply run_snil | (with_reducible apply is_S (.ret _); refine run_scons (run_ret ?_)) | (with_reducible apply is_S (.ite _ _ _); refine run_scons (run_ite ?_)) | with_reducible apply run_k | with_reducible apply run_gl | with_reducible apply r_bi | with_reducible apply run_and_nil | with_reducible apply run_or_nil | with_reducible apply run_and_cons | with_reducible apply run_or_cons | with_reducible apply run_and | with_reducible apply run_or | with_reducible apply run_not | with_reducible apply run_nil | with_reducible apply run_cons | with_reducible apply run_anil | with_reducible apply run_acons | with_reducible apply run_ae | with_reducible apply r_call | with_reducible apply run_chain | with_reducible apply run_seq | with_reducible apply run_lcF | (with_reducible apply is_E (.v _); refine run_v rfl ?_) | (with_reducible apply is_Bo .len; refine bo_len rfl rfl ?_) | with_reducible refine .inl ⟨rfl, ?_⟩ | with_reducible refine .inr ⟨_, rfl, ?_⟩ | refine ⟨Nat.le_of_ble_eq_true rfl, ?_⟩ | with_reducible refine ⟨rfl, ?_⟩ | with_reducible refine ⟨isCont_l, ?_⟩))
          exact .inl ⟨_, rfl, rfl, rfl⟩
        · simp at z
      · simp at z
  · have := of_decide_eq_false h1
    omega
theorem s_joins {n : Nat} {m : List D} {x a b : D} {ns : List D} (hx : Row x ns) (nm : ∀ d ∈ ns, Nm d) (ha : a ∈ ns) (hb : b ∈ ns) (l : ltd a b = true) : RunC (call F ini W (n + 2) 81 [x, pr a b] m) fun d m' => d = .bl true ∧ m' = m := by
  have oks : ∀ d ∈ ns, Ok d := fun d hd => (nm d hd).ok.1
  refine run_def (r := [.v x, .v (pr a b), .un]) (hF _ _ rfl) (by intro c h; cases h) rfl rfl ?_
  dsimp only [d_joins]
  (repeat (first | with_reducible apply run_snil | (with_reducible apply is_S (.ret _); refine run_scons (run_ret ?_)) | (with_reducible apply is_S (.ite _ _ _); refine run_scons (run_ite ?_)) | with_reducible apply run_k | with_reducible apply r_bi | with_reducible apply run_and_nil | with_reducible apply run_or_nil | with_reducible apply run_and_cons | with_reducible apply run_or_cons | with_reducible apply run_and | with_reducible apply run_or | with_reducible apply run_not | with_reducible apply run_nil | with_reducible apply run_cons | with_reducible apply run_anil | with_reducible apply run_acons | with_reducible apply run_ae | with_reducible apply r_call | with_reducible apply run_isi | with_reducible apply run_seq | with_reducible apply run_lcF | (with_reducible apply is_E (.v _); refine run_v rfl ?_) | (with_reducible apply is_Bo .lt; refine bo_ltI rfl ?_) | (with_reducible apply is_Bo .len; refine bo_len rfl rfl ?_) | with_reducible refine .inl ⟨rfl, ?_⟩ | with_reducible refine .inr ⟨_, rfl, ?_⟩ | refine ⟨Nat.le_of_ble_eq_true rfl, ?_⟩ | with_reducible refine ⟨rfl, ?_⟩ | with_reducible refine ⟨isCont_l, ?_⟩))
  refine ⟨_, _, rfl, rfl, ?_⟩
  refine ⟨_, rfl, ?_⟩
  refine ⟨_, rfl, fun _ => ?_, fun z => nomatch z⟩
  (repeat (first | with_reducible apply run_snil | (with_reducible apply is_S (.ret _); refine run_scons (run_ret ?_)) | (with_reducible apply is_S (.ite _ _ _); refine run_scons (run_ite ?_)) | with_reducible apply run_k | with_reducible apply r_bi | with_reducible apply run_and_nil | with_reducible apply run_or_nil | with_reducible apply run_and_cons | with_reducible apply run_or_cons | with_reducible apply run_and | with_reducible apply run_or | with_reducible apply run_not | with_reducible apply run_nil | with_reducible apply run_cons | with_reducible apply run_anil | with_reducible apply run_acons | with_reducible apply run_ae | with_reducible apply r_call | with_reducible apply run_isi | with_reducible apply run_seq | with_reducible apply run_lcF | (with_reducible apply is_E (.v _); refine run_v rfl ?_) | (with_reducible apply is_Bo .lt; refine bo_ltI rfl ?_) | (with_reducible apply is_Bo .len; refine bo_len rfl rfl ?_) | with_reducible refine .inl ⟨rfl, ?_⟩ | with_reducible refine .inr ⟨_, rfl, ?_⟩ | refine ⟨Nat.le_of_ble_eq_true rfl, ?_⟩ | with_reducible refine ⟨rfl, ?_⟩ | with_reducible refine ⟨isCont_l, ?_⟩))
  refine bo_ne rfl rfl rfl (eqD_ok (ok_int _) (ok_int _)) ?_
  refine ⟨_, rfl, fun _ => ?_, fun z => by simp at z⟩
  (repeat (first | with_reducible apply run_snil | (with_reducible apply is_S (.ret _); refine run_scons (run_ret ?_)) | (with_reducible apply is_S (.ite _ _ _); refine run_scons (run_ite ?_)) | with_reducible apply run_k | with_reducible apply r_bi | with_reducible apply run_and_nil | with_reducible apply run_or_nil | with_reducible apply run_and_cons | with_reducible apply run_or_cons | with_reducible apply run_and | with_reducible apply run_or | with_reducible apply run_not | with_reducible apply run_nil | with_reducible apply run_cons | with_reducible apply run_anil | with_reducible apply run_acons | with_reducible apply run_ae | with_reducible apply r_call | with_reducible apply run_isi | with_reducible apply run_seq | with_reducible apply run_lcF | (with_reducible apply is_E (.v _); refine run_v rfl ?_) | (with_reducible apply is_Bo .lt; refine bo_ltI rfl ?_) | (with_reducible apply is_Bo .len; refine bo_len rfl rfl ?_) | with_reducible refine .inl ⟨rfl, ?_⟩ | with_reducible refine .inr ⟨_, rfl, ?_⟩ | refine ⟨Nat.le_of_ble_eq_true rfl, ?_⟩ | with_reducible refine ⟨rfl, ?_⟩ | with_reducible refine ⟨isCont_l, ?_⟩))
  refine ⟨_, rfl, (fun z => nomatch z), fun _ => ?_⟩
  (repeat (first | with_reducible apply run_snil | (with_reducible apply is_S (.ret _); refine run_scons (run_ret ?_)) | (with_reducible apply is_S (.ite _ _ _); refine run_scons (run_ite ?_)) | with_reducible apply run_k | with_reducible apply r_bi | with_reducible apply run_and_nil | with_reducible apply run_or_nil | with_reducible apply run_and_cons | with_reducible apply run_or_cons | with_reducible apply run_and | with_reducible apply run_or | with_reducible apply run_not | with_reducible apply run_nil | with_reducible apply run_cons | with_reducible apply run_anil | with_reducible apply run_acons | with_reducible apply run_ae | with_reducible apply r_call | with_reducible apply run_isi | with_reducible apply run_seq | with_reducible apply run_lcF | (with_reducible apply is_E (.v _); refine run_v rfl ?_) | (with_reducible apply is_Bo .lt; refine bo_ltI rfl ?_) | (with_reducible apply is_Bo .len; refine bo_len rfl rfl ?_) | with_reducible refine .inl ⟨rfl, ?_⟩ | with_reducible refine .inr ⟨_, rfl, ?_⟩ | refine ⟨Nat.le_of_ble_eq_true rfl, ?_⟩ | with_reducible refine ⟨rfl, ?_⟩ | with_reducible refine ⟨isCont_l, ?_⟩))
  refine r_lc ?_
  (repeat (first | with_reducible apply run_snil | (with_reducible apply is_S (.ret _); refine run_scons (run_ret ?_)) | (with_reducible apply is_S (.ite _ _ _); refine run_scons (run_ite ?_)) | with_reducible apply run_k | with_reducible apply r_bi | with_reducible apply run_and_nil | with_reducible apply run_or_nil | with_reducible apply run_and_cons | with_reducible apply run_or_cons | with_reducible apply run_and | with_reducible apply run_or | with_reducible apply run_not | with_reducible apply run_nil | with_reducible apply run_cons | with_reducible apply run_anil | with_reducible apply run_acons | with_reducible apply run_ae | with_reducible apply r_call | with_reducible apply run_isi | with_reducible apply run_seq | with_reducible apply run_lcF | (with_reducible apply is_E (.v _); refine run_v rfl ?_) | (with_reducible apply is_Bo .lt; refine bo_ltI rfl ?_) | (with_reducible apply is_Bo .len; refine bo_len rfl rfl ?_) | with_reducible refine .inl ⟨rfl, ?_⟩ | with_reducible refine .inr ⟨_, rfl, ?_⟩ | refine ⟨Nat.le_of_ble_eq_true rfl, ?_⟩ | with_reducible refine ⟨rfl, ?_⟩ | with_reducible refine ⟨isCont_l, ?_⟩))
  refine ⟨_, rfl, rfl, by simp, fun x => some (.bl true), fun c hc => ⟨_, rfl, ?_⟩, ?_⟩
  · have hc : c ∈ ns := by
      simp only [List.mem_cons, List.not_mem_nil, or_false] at hc
      rcases hc with rfl | rfl
      · exact ha
      · exact hb
    obtain ⟨t, rfl, ht⟩ := nm c hc
    (repeat (first | with_reducible apply run_snil | (with_reducible apply is_S (.ret _); refine run_scons (run_ret ?_)) | (with_reducible apply is_S (.ite _ _ _); refine run_scons (run_ite ?_)) | with_reducible apply run_k | with_reducible apply r_bi | with_reducible apply run_and_nil | with_reducible apply run_or_nil | with_reducible apply run_and_cons | with_reducible apply run_or_cons | with_reducible apply run_and | with_reducible apply run_or | with_reducible apply run_not | with_reducible apply run_nil | with_reducible apply run_cons | with_reducible apply run_anil | with_reducible apply run_acons | with_reducible apply run_ae | with_reducible apply r_call | with_reducible apply run_isi | with_reducible apply run_seq | with_reducible apply run_lcF | (with_reducible apply is_E (.v _); refine run_v rfl ?_) | (with_reducible apply is_Bo .lt; refine bo_ltI rfl ?_) | (with_reducible apply is_Bo .len; refine bo_len rfl rfl ?_) | with_reducible refine .inl ⟨rfl, ?_⟩ | with_reducible refine .inr ⟨_, rfl, ?_⟩ | refine ⟨Nat.le_of_ble_eq_true rfl, ?_⟩ | with_reducible refine ⟨rfl, ?_⟩ | with_reducible refine ⟨isCont_l, ?_⟩))
    refine ⟨fun _ => ?_, fun z => nomatch z⟩
    (repeat (first | with_reducible apply run_snil | (with_reducible apply is_S (.ret _); refine run_scons (run_ret ?_)) | (with_reducible apply is_S (.ite _ _ _); refine run_scons (run_ite ?_)) | with_reducible apply run_k | with_reducible apply r_bi | with_reducible apply run_and_nil | with_reducible apply run_or_nil | with_reducible apply run_and_cons | with_reducible apply run_or_cons | with_reducible apply run_and | with_reducible apply run_or | with_reducible apply run_not | with_reducible apply run_nil | with_reducible apply run_cons | with_reducible apply run_anil | with_reducible apply run_acons | with_reducible apply run_ae | with_reducible apply r_call | with_reducible apply run_isi | with_reducible apply run_seq | with_reducible apply run_lcF | (with_reducible apply is_E (.v _); refine run_v rfl ?_) | (with_reducible apply is_Bo .lt; refine bo_ltI rfl ?_) | (with_reducible apply is_Bo .len; refine bo_len rfl rfl ?_) | with_reducible refine .inl ⟨rfl, ?_⟩ | with_reducible refine .inr ⟨_, rfl, ?_⟩ | refine ⟨Nat.le_of_ble_eq_true rfl, ?_⟩ | with_reducible refine ⟨rfl, ?_⟩ | with_reducible refine ⟨isCont_l, ?_⟩))
    refine (s_name hF (n := n) (by have := nm_short ht; omega)).imp fun d m2 ⟨e1, e2⟩ => ?_
    subst e1 e2
    rw [ht]
    refine ⟨_, rfl, fun _ => ?_, fun z => nomatch z⟩
    (repeat (first | with_reducible apply run_snil | (with_reducible apply is_S (.ret _); refine run_scons (run_ret ?_)) | (with_reducible apply is_S (.ite _ _ _); refine run_scons (run_ite ?_)) | with_reducible apply run_k | with_reducible apply r_bi | with_reducible apply run_and_nil | with_reducible apply run_or_nil | with_reducible apply run_and_cons | with_reducible apply run_or_cons | with_reducible apply run_and | with_reducible apply run_or | with_reducible apply run_not | with_reducible apply run_nil | with_reducible apply run_cons | with_reducible apply run_anil | with_reducible apply run_acons | with_reducible apply run_ae | with_reducible apply r_call | with_reducible apply run_isi | with_reducible apply run_seq | with_reducible apply run_lcF | (with_reducible apply is_E (.v _); refine run_v rfl ?_) | (with_reducible apply is_Bo .lt; refine bo_ltI rfl ?_) | (with_reducible apply is_Bo .len; refine bo_len rfl rfl ?_) | with_reducible refine .inl ⟨rfl, ?_⟩ | with_reducible refine .inr ⟨_, rfl, ?_⟩ | refine ⟨Nat.le_of_ble_eq_true rfl, ?_⟩ | with_reducible refine ⟨rfl, ?_⟩ | with_reducible refine ⟨isCont_l, ?_⟩))
    refine bo_isin rfl hx.seq (hasD_ok (oks _ hc) oks) ?_
    refine ⟨_, rfl, fun _ => ?_, fun z => by simp [hc] at z⟩
    (repeat (first | with_reducible apply run_snil | (with_reducible apply is_S (.ret _); refine run_scons (run_ret ?_)) | (with_reducible apply is_S (.ite _ _ _); refine run_scons (run_ite ?_)) | with_reducible apply run_k | with_reducible apply r_bi | with_reducible apply run_and_nil | with_reducible apply run_or_nil | with_reducible apply run_and_cons | with_reducible apply run_or_cons | with_reducible apply run_and | with_reducible apply run_or | with_reducible apply run_not | with_reducible apply run_nil | with_reducible apply run_cons | with_reducible apply run_anil | with_reducible apply run_acons | with_reducible apply run_ae | with_reducible apply r_call | with_reducible apply run_isi | with_reducible apply run_seq | with_reducible apply run_lcF | (with_reducible apply is_E (.v _); refine run_v rfl ?_) | (with_reducible apply is_Bo .lt; refine bo_ltI rfl ?_) | (with_reducible apply is_Bo .len; refine bo_len rfl rfl ?_) | with_reducible refine .inl ⟨rfl, ?_⟩ | with_reducible refine .inr ⟨_, rfl, ?_⟩ | refine ⟨Nat.le_of_ble_eq_true rfl, ?_⟩ | with_reducible refine ⟨rfl, ?_⟩ | with_reducible refine ⟨isCont_l, ?_⟩))
    first | exact rfl | exact ⟨rfl, rfl, rfl⟩
  · (repeat (first | with_reducible apply run_snil | (with_reducible apply is_S (.ret _); refine run_scons (run_ret ?_)) | (with_reducible apply is_S (.ite _ _ _); refine run_scons (run_ite ?_)) | with_reducible apply run_k | with_reducible apply r_bi | with_reducible apply run_and_nil | with_reducible apply run_or_nil | with_reducible apply run_and_cons | with_reducible apply run_or_cons | with_reducible apply run_and | with_reducible apply run_or | with_reducible apply run_not | with_reducible apply run_nil | with_reducible apply run_cons | with_reducible apply run_anil | with_reducible apply run_acons | with_reducible apply run_ae | with_reducible apply r_call | with_reducible apply run_isi | with_reducible apply run_seq | with_reducible apply run_lcF | (with_reducible apply is_E (.v _); refine run_v rfl ?_) | (with_reducible apply is_Bo .lt; refine bo_ltI rfl ?_) | (with_reducible apply is_Bo .len; refine bo_len rfl rfl ?_) | with_reducible refine .inl ⟨rfl, ?_⟩ | with_reducible refine .inr ⟨_, rfl, ?_⟩ | refine ⟨Nat.le_of_ble_eq_true rfl, ?_⟩ | with_reducible refine ⟨rfl, ?_⟩ | with_reducible refine ⟨isCont_l, ?_⟩))
    refine bo_all (xs := [a, b].filterMap fun x => some (.bl ((fun _ => true) x))) rfl rfl allB_fm ?_
    refine ⟨_, rfl, fun _ => ?_, fun z => by simp at z⟩
    (repeat (first | with_reducible apply run_snil | (with_reducible apply is_S (.ret _); refine run_scons (run_ret ?_)) | (with_reducible apply is_S (.ite _ _ _); refine run_scons (run_ite ?_)) | with_reducible apply run_k | with_reducible apply r_bi | with_reducible apply run_and_nil | with_reducible apply run_or_nil | with_reducible apply run_and_cons | with_reducible apply run_or_cons | with_reducible apply run_and | with_reducible apply run_or | with_reducible apply run_not | with_reducible apply run_nil | with_reducible apply run_cons | with_reducible apply run_anil | with_reducible apply run_acons | with_reducible apply run_ae | with_reducible apply r_call | with_reducible apply run_isi | with_reducible apply run_seq | with_reducible apply run_lcF | (with_reducible apply is_E (.v _); refine run_v rfl ?_) | (with_reducible apply is_Bo .lt; refine bo_ltI rfl ?_) | (with_reducible apply is_Bo .len; refine bo_len rfl rfl ?_) | with_reducible refine .inl ⟨rfl, ?_⟩ | with_reducible refine .inr ⟨_, rfl, ?_⟩ | refine ⟨Nat.le_of_ble_eq_true rfl, ?_⟩ | with_reducible refine ⟨rfl, ?_⟩ | with_reducible refine ⟨isCont_l, ?_⟩))
    refine bo_idx rfl rfl rfl rfl ?_
    (repeat (first | with_reducible apply run_snil | (with_reducible apply is_S (.ret _); refine run_scons (run_ret ?_)) | (with_reducible apply is_S (.ite _ _ _); refine run_scons (run_ite ?_)) | with_reducible apply run_k | with_reducible apply r_bi | with_reducible apply run_and_nil | with_reducible apply run_or_nil | with_reducible apply run_and_cons | with_reducible apply run_or_cons | with_reducible apply run_and | with_reducible apply run_or | with_reducible apply run_not | with_reducible apply run_nil | with_reducible apply run_cons | with_reducible apply run_anil | with_reducible apply run_acons | with_reducible apply run_ae | with_reducible apply r_call | with_reducible apply run_isi | with_reducible apply run_seq | with_reducible apply run_lcF | (with_reducible apply is_E (.v _); refine run_v rfl ?_) | (with_reducible apply is_Bo .lt; refine bo_ltI rfl ?_) | (with_reducible apply is_Bo .len; refine bo_len rfl rfl ?_) | with_reducible refine .inl ⟨rfl, ?_⟩ | with_reducible refine .inr ⟨_, rfl, ?_⟩ | refine ⟨Nat.le_of_ble_eq_true rfl, ?_⟩ | with_reducible refine ⟨rfl, ?_⟩ | with_reducible refine ⟨isCont_l, ?_⟩))
    refine bo_idx rfl rfl rfl rfl ?_
    (repeat (first | with_reducible apply run_snil | (with_reducible apply is_S (.ret _); refine run_scons (run_ret ?_)) | (with_reducible apply is_S (.ite _ _ _); refine run_scons (run_ite ?_)) | with_reducible apply run_k | with_reducible apply r_bi | with_reducible apply run_and_nil | with_reducible apply run_or_nil | with_reducible apply run_and_cons | with_reducible apply run_or_cons | with_reducible apply run_and | with_reducible apply run_or | with_reducible apply run_not | with_reducible apply run_nil | with_reducible apply run_cons | with_reducible apply run_anil | with_reducible apply run_acons | with_reducible apply run_ae | with_reducible apply r_call | with_reducible apply run_isi | with_reducible apply run_seq | with_reducible apply run_lcF | (with_reducible apply is_E (.v _); refine run_v rfl ?_) | (with_reducible apply is_Bo .lt; refine bo_ltI rfl ?_) | (with_reducible apply is_Bo .len; refine bo_len rfl rfl ?_) | with_reducible refine .inl ⟨rfl, ?_⟩ | with_reducible refine .inr ⟨_, rfl, ?_⟩ | refine ⟨Nat.le_of_ble_eq_true rfl, ?_⟩ | with_reducible refine ⟨rfl, ?_⟩ | with_reducible refine ⟨isCont_l, ?_⟩))
    refine bo_lt rfl (ltD_ok ((nm a ha).same (nm b hb)) (oks a ha) (oks b hb)) ?_
    rw [l]
    refine ⟨_, rfl, fun _ => ?_, fun z => nomatch z⟩
    (repeat (first | with_reducible apply run_snil | (with_reducible apply is_S (.ret _); refine run_scons (run_ret ?_)) | (with_reducible apply is_S (.ite _ _ _); refine run_scons (run_ite ?_)) | with_reducible apply run_k | with_reducible apply r_bi | with_reducible apply run_and_nil | with_reducible apply run_or_nil | with_reducible apply run_and_cons | with_reducible apply run_or_cons | with_reducible apply run_and | with_reducible apply run_or | with_reducible apply run_not | with_reducible apply run_nil | with_reducible apply run_cons | with_reducible apply run_anil | with_reducible apply run_acons | with_reducible apply run_ae | with_reducible apply r_call | with_reducible apply run_isi | with_reducible apply run_seq | with_reducible apply run_lcF | (with_reducible apply is_E (.v _); refine run_v rfl ?_) | (with_reducible apply is_Bo .lt; refine bo_ltI rfl ?_) | (with_reducible apply is_Bo .len; refine bo_len rfl rfl ?_) | with_reducible refine .inl ⟨rfl, ?_⟩ | with_reducible refine .inr ⟨_, rfl, ?_⟩ | refine ⟨Nat.le_of_ble_eq_true rfl, ?_⟩ | with_reducible refine ⟨rfl, ?_⟩ | with_reducible refine ⟨isCont_l, ?_⟩))
    exact .inl ⟨_, rfl, rfl, rfl⟩
theorem s_edges {n : Nat} {m : List D} {x y : D} {ns es : List D} (hx : Row x ns) (hy : Row y es) (v : Vs ns) (ed : Es ns es) : RunC (call F ini W (n + 3) 18 [x, y] m) fun d m' => d = .bl true ∧ m' = m := by
  refine run_def (r := [.v x, .v y, .un]) (hF _ _ rfl) (by intro c h; cases h) rfl rfl ?_
  dsimp only [d_are_edges]
  have hi := ed.hi
  (repeat (first | with_reducible apply run_snil | (with_reducible apply is_S (.ret _); refine run_scons (run_ret ?_)) | (with_reducible apply is_S (.ite _ _ _); refine run_scons (run_ite ?_)) | with_reducible apply run_k | with_reducible apply run_gl | with_reducible apply r_bi | with_reducible apply run_and_nil | with_reducible apply run_or_nil | with_reducible apply run_and_cons | with_reducible apply run_or_cons | with_reducible apply run_and | with_reducible apply run_or | with_reducible apply run_not | with_reducible apply run_nil | with_reducible apply run_cons | with_reducible apply run_anil | with_reducible apply run_acons | with_reducible apply run_ae | with_reducible apply r_call | with_reducible apply run_seq | with_reducible apply run_lcF | (with_reducible apply is_E (.v _); refine run_v rfl ?_) | (with_reducible apply is_Bo .gt; refine bo_gtI rfl ?_) | (with_reducible apply is_Bo .len; refine bo_len rfl rfl ?_) | with_reducible refine .inl ⟨rfl, ?_⟩ | with_reducible refine .inr ⟨_, rfl, ?_⟩ | refine ⟨Nat.le_of_ble_eq_true rfl, ?_⟩ | with_reducible refine ⟨rfl, ?_⟩ | with_reducible refine ⟨isCont_l, ?_⟩))
  refine (s_row hF (n := n + 1) hy).imp fun d m2 ⟨e1, e2⟩ => ?_
  subst e1 e2
  refine ⟨_, rfl, ?_⟩
  refine ⟨_, rfl, fun _ => ?_, fun z => nomatch z⟩
  (repeat (first | with_reducible apply run_snil | (with_reducible apply is_S (.ret _); refine run_scons (run_ret ?_)) | (with_reducible apply is_S (.ite _ _ _); refine run_scons (run_ite ?_)) | with_reducible apply run_k | with_reducible apply run_gl | with_reducible apply r_bi | with_reducible apply run_and_nil | with_reducible apply run_or_nil | with_reducible apply run_and_cons | with_reducible apply run_or_cons | with_reducible apply run_and | with_reducible apply run_or | with_reducible apply run_not | with_reducible apply run_nil | with_reducible apply run_cons | with_reducible apply run_anil | with_reducible apply run_acons | with_reducible apply run_ae | with_reducible apply r_call | with_reducible apply run_seq | with_reducible apply run_lcF | (with_reducible apply is_E (.v _); refine run_v rfl ?_) | (with_reducible apply is_Bo .gt; refine bo_gtI rfl ?_) | (with_reducible apply is_Bo .len; refine bo_len rfl rfl ?_) | with_reducible refine .inl ⟨rfl, ?_⟩ | with_reducible refine .inr ⟨_, rfl, ?_⟩ | refine ⟨Nat.le_of_ble_eq_true rfl, ?_⟩ | with_reducible refine ⟨rfl, ?_⟩ | with_reducible refine ⟨isCont_l, ?_⟩))
  refine bo_len rfl hy.seq ?_
  (repeat (first | with_reducible apply run_snil | (with_reducible apply is_S (.ret _); refine run_scons (run_ret ?_)) | (with_reducible apply is_S (.ite _ _ _); refine run_scons (run_ite ?_)) | with_reducible apply run_k | with_reducible apply run_gl | with_reducible apply r_bi | with_reducible apply run_and_nil | with_reducible apply run_or_nil | with_reducible apply run_and_cons | with_reducible apply run_or_cons | with_reducible apply run_and | with_reducible apply run_or | with_reducible apply run_not | with_reducible apply run_nil | with_reducible apply run_cons | with_reducible apply run_anil | with_reducible apply run_acons | with_reducible apply run_ae | with_reducible apply r_call | with_reducible apply run_seq | with_reducible apply run_lcF | (with_reducible apply is_E (.v _); refine run_v rfl ?_) | (with_reducible apply is_Bo .gt; refine bo_gtI rfl ?_) | (with_reducible apply is_Bo .len; refine bo_len rfl rfl ?_) | with_reducible refine .inl ⟨rfl, ?_⟩ | with_reducible refine .inr ⟨_, rfl, ?_⟩ | refine ⟨Nat.le_of_ble_eq_true rfl, ?_⟩ | with_reducible refine ⟨rfl, ?_⟩ | with_reducible refine ⟨isCont_l, ?_⟩))
  refine ⟨_, rfl, (fun z => ?_), fun z => ?_⟩
  case refine_2 => have := of_decide_eq_true z; omega
  (repeat (first | with_reducible apply run_snil | (with_reducible apply is_S (.ret _); refine run_scons (run_ret ?_)) | (with_reducible apply is_S (.ite _ _ _); refine run_scons (run_ite ?_)) | with_reducible apply run_k | with_reducible apply run_gl | with_reducible apply r_bi | with_reducible apply run_and_nil | with_reducible apply run_or_nil | with_reducible apply run_and_cons | with_reducible apply run_or_cons | with_reducible apply run_and | with_reducible apply run_or | with_reducible apply run_not | with_reducible apply run_nil | with_reducible apply run_cons | with_reducible apply run_anil | with_reducible apply run_acons | with_reducible apply run_ae | with_reducible apply r_call | with_reducible apply run_seq | with_reducible apply run_lcF | (with_reducible apply is_E (.v _); refine run_v rfl ?_) | (with_reducible apply is_Bo .gt; refine bo_gtI rfl ?_) | (with_reducible apply is_Bo .len; refine bo_len rfl rfl ?_) | with_reducible refine .inl ⟨rfl, ?_⟩ | with_reducible refine .inr ⟨_, rfl, ?_⟩ | refine ⟨Nat.le_of_ble_eq_true rfl, ?_⟩ | with_reducible refine ⟨rfl, ?_⟩ | with_reducible refine ⟨isCont_l, ?_⟩))
  refine ⟨_, rfl, (fun z => nomatch z), fun _ => ?_⟩
  (repeat (first | with_reducible apply run_snil | (with_reducible apply is_S (.ret _); refine run_scons (run_ret ?_)) | (with_reducible apply is_S (.ite _ _ _); refine run_scons (run_ite ?_)) | with_reducible apply run_k | with_reducible apply run_gl | with_reducible apply r_bi | with_reducible apply run_and_nil | with_reducible apply run_or_nil | with_reducible apply run_and_cons | with_reducible apply run_or_cons | with_reducible apply run_and | with_reducible apply run_or | with_reducible apply run_not | with_reducible apply run_nil | with_reducible apply run_cons | with_reducible apply run_anil | with_reducible apply run_acons | with_reducible apply run_ae | with_reducible apply r_call | with_reducible apply run_seq | with_reducible apply run_lcF | (with_reducible apply is_E (.v _); refine run_v rfl ?_) | (with_reducible apply is_Bo .gt; refine bo_gtI rfl ?_) | (with_reducible apply is_Bo .len; refine bo_len rfl rfl ?_) | with_reducible refine .inl ⟨rfl, ?_⟩ | with_reducible refine .inr ⟨_, rfl, ?_⟩ | refine ⟨Nat.le_of_ble_eq_true rfl, ?_⟩ | with_reducible refine ⟨rfl, ?_⟩ | with_reducible refine ⟨isCont_l, ?_⟩))
  refine r_lc ?_
  (repeat (first | with_reducible apply run_snil | (with_reducible apply is_S (.ret _); refine run_scons (run_ret ?_)) | (with_reducible apply is_S (.ite _ _ _); refine run_scons (run_ite ?_)) | with_reducible apply run_k | with_reducible apply run_gl | with_reducible apply r_bi | with_reducible apply run_and_nil | with_reducible apply run_or_nil | with_reducible apply run_and_cons | with_reducible apply run_or_cons | with_reducible apply run_and | with_reducible apply run_or | with_reducible apply run_not | with_reducible apply run_nil | with_reducible apply run_cons | with_reducible apply run_anil | with_reducible apply run_acons | with_reducible apply run_ae | with_reducible apply r_call | with_reducible apply run_seq | with_reducible apply run_lcF | (with_reducible apply is_E (.v _); refine run_v rfl ?_) | (with_reducible apply is_Bo .gt; refine bo_gtI rfl ?_) | (with_reducible apply is_Bo .len; refine bo_len rfl rfl ?_) | with_reducible refine .inl ⟨rfl, ?_⟩ | with_reducible refine .inr ⟨_, rfl, ?_⟩ | refine ⟨Nat.le_of_ble_eq_true rfl, ?_⟩ | with_reducible refine ⟨rfl, ?_⟩ | with_reducible refine ⟨isCont_l, ?_⟩))
  refine ⟨_, by cases hy <;> rfl, rfl, by omega, fun x => some (.bl true), fun e he => ⟨_, rfl, ?_⟩, ?_⟩
  · obtain ⟨a, b, rfl, ha, hb, l⟩ := ed.ed e he
    (repeat (first | with_reducible apply run_snil | (with_reducible apply is_S (.ret _); refine run_scons (run_ret ?_)) | (with_reducible apply is_S (.ite _ _ _); refine run_scons (run_ite ?_)) | with_reducible apply run_k | with_reducible apply run_gl | with_reducible apply r_bi | with_reducible apply run_and_nil | with_reducible apply run_or_nil | with_reducible apply run_and_cons | with_reducible apply run_or_cons | with_reducible apply run_and | with_reducible apply run_or | with_reducible apply run_not | with_reducible apply run_nil | with_reducible apply run_cons | with_reducible apply run_anil | with_reducible apply run_acons | with_reducible apply run_ae | with_reducible apply r_call | with_reducible apply run_seq | with_reducible apply run_lcF | (with_reducible apply is_E (.v _); refine run_v rfl ?_) | (with_reducible apply is_Bo .gt; refine bo_gtI rfl ?_) | (with_reducible apply is_Bo .len; refine bo_len rfl rfl ?_) | with_reducible refine .inl ⟨rfl, ?_⟩ | with_reducible refine .inr ⟨_, rfl, ?_⟩ | refine ⟨Nat.le_of_ble_eq_true rfl, ?_⟩ | with_reducible refine ⟨rfl, ?_⟩ | with_reducible refine ⟨isCont_l, ?_⟩))
    refine ⟨fun _ => ?_, fun z => nomatch z⟩
    (repeat (first | with_reducible apply run_snil | (with_reducible apply is_S (.ret _); refine run_scons (run_ret ?_)) | (with_reducible apply is_S (.ite _ _ _); refine run_scons (run_ite ?_)) | with_reducible apply run_k | with_reducible apply run_gl | with_reducible apply r_bi | with_reducible apply run_and_nil | with_reducible apply run_or_nil | with_reducible apply run_and_cons | with_reducible apply run_or_cons | with_reducible apply run_and | with_reducible apply run_or | with_reducible apply run_not | with_reducible apply run_nil | with_reducible apply run_cons | with_reducible apply run_anil | with_reducible apply run_acons | with_reducible apply run_ae | with_reducible apply r_call | with_reducible apply run_seq | with_reducible apply run_lcF | (with_reducible apply is_E (.v _); refine run_v rfl ?_) | (with_reducible apply is_Bo .gt; refine bo_gtI rfl ?_) | (with_reducible apply is_Bo .len; refine bo_len rfl rfl ?_) | with_reducible refine .inl ⟨rfl, ?_⟩ | with_reducible refine .inr ⟨_, rfl, ?_⟩ | refine ⟨Nat.le_of_ble_eq_true rfl, ?_⟩ | with_reducible refine ⟨rfl, ?_⟩ | with_reducible refine ⟨isCont_l, ?_⟩))
    refine (s_joins hF (n := n) hx v.nm ha hb l).imp fun d m2 ⟨e1, e2⟩ => ?_
    subst e1 e2
    exact ⟨rfl, rfl, rfl⟩
  · (repeat (first | with_reducible apply run_snil | (with_reducible apply is_S (.ret _); refine run_scons (run_ret ?_)) | (with_reducible apply is_S (.ite _ _ _); refine run_scons (run_ite ?_)) | with_reducible apply run_k | with_reducible apply run_gl | with_reducible apply r_bi | with_reducible apply run_and_nil | with_reducible apply run_or_nil | with_reducible apply run_and_cons | with_reducible apply run_or_cons | with_reducible apply run_and | with_reducible apply run_or | with_reducible apply run_not | with_reducible apply run_nil | with_reducible apply run_cons | with_reducible apply run_anil | with_reducible apply run_acons | with_reducible apply run_ae | with_reducible apply r_call | with_reducible apply run_seq | with_reducible apply run_lcF | (with_reducible apply is_E (.v _); refine run_v rfl ?_) | (with_reducible apply is_Bo .gt; refine bo_gtI rfl ?_) | (with_reducible apply is_Bo .len; refine bo_len rfl rfl ?_) | with_reducible refine .inl ⟨rfl, ?_⟩ | with_reducible refine .inr ⟨_, rfl, ?_⟩ | refine ⟨Nat.le_of_ble_eq_true rfl, ?_⟩ | with_reducible refine ⟨rfl, ?_⟩ | with_reducible refine ⟨isCont_l, ?_⟩))
    refine bo_all (xs := es.filterMap fun x => some (.bl ((fun _ => true) x))) rfl rfl allB_fm ?_
    refine ⟨_, rfl, fun _ => ?_, fun z => by simp at z⟩
    (repeat (first | with_reducible apply run_snil | (with_reducible apply is_S (.ret _); refine run_scons (run_ret ?_)) | (with_reducible apply is_S (.ite _ _ _); refine run_scons (run_ite ?_)) | with_reducible apply run_k | with_reducible apply run_gl | with_reducible apply r_bi | with_reducible apply run_and_nil | with_reducible apply run_or_nil | with_reducible apply run_and_cons | with_reducible apply run_or_cons | with_reducible apply run_and | with_reducible apply run_or | with_reducible apply run_not | with_reducible apply run_nil | with_reducible apply run_cons | with_reducible apply run_anil | with_reducible apply run_acons | with_reducible apply run_ae | with_reducible apply r_call | with_reducible apply run_seq | with_reducible apply run_lcF | (with_reducible apply is_E (.v _); refine run_v rfl ?_) | (with_reducible apply is_Bo .gt; refine bo_gtI rfl ?_) | (with_reducible apply is_Bo .len; refine bo_len rfl rfl ?_) | with_reducible refine .inl ⟨rfl, ?_⟩ | with_reducible refine .inr ⟨_, rfl, ?_⟩ | refine ⟨Nat.le_of_ble_eq_true rfl, ?_⟩ | with_reducible refine ⟨rfl, ?_⟩ | with_reducible refine ⟨isCont_l, ?_⟩))
    refine bo_lset rfl hy.seq (set_edges (ed.eds v) (by omega)) ?_
    (repeat (first | with_reducible apply run_snil | (with_reducible apply is_S (.ret _); refine run_scons (run_ret ?_)) | (with_reducible apply is_S (.ite _ _ _); refine run_scons (run_ite ?_)) | with_reducible apply run_k | with_reducible apply run_gl | with_reducible apply r_bi | with_reducible apply run_and_nil | with_reducible apply run_or_nil | with_reducible apply run_and_cons | with_reducible apply run_or_cons | with_reducible apply run_and | with_reducible apply run_or | with_reducible apply run_not | with_reducible apply run_nil | with_reducible apply run_cons | with_reducible apply run_anil | with_reducible apply run_acons | with_reducible apply run_ae | with_reducible apply r_call | with_reducible apply run_seq | with_reducible apply run_lcF | (with_reducible apply is_E (.v _); refine run_v rfl ?_) | (with_reducible apply is_Bo .gt; refine bo_gtI rfl ?_) | (with_reducible apply is_Bo .len; refine bo_len rfl rfl ?_) | with_reducible refine .inl ⟨rfl, ?_⟩ | with_reducible refine .inr ⟨_, rfl, ?_⟩ | refine ⟨Nat.le_of_ble_eq_true rfl, ?_⟩ | with_reducible refine ⟨rfl, ?_⟩ | with_reducible refine ⟨isCont_l, ?_⟩))
    refine bo_len rfl hy.seq ?_
    (repeat (first | with_reducible apply run_snil | (with_reducible apply is_S (.ret _); refine run_scons (run_ret ?_)) | (with_reducible apply is_S (.ite _ _ _); refine run_scons (run_ite ?_)) | with_reducible apply run_k | with_reducible apply run_gl | with_reducible apply r_bi | with_reducible apply run_and_nil | with_reducible apply run_or_nil | with_reducible apply run_and_cons | with_reducible apply run_or_cons | with_reducible apply run_and | with_reducible apply run_or | with_reducible apply run_not | with_reducible apply run_nil | with_reducible apply run_cons | with_reducible apply run_anil | with_reducible apply run_acons | with_reducible apply run_ae | with_reducible apply r_call | with_reducible apply run_seq | with_reducible apply run_lcF | (with_reducible apply is_E (.v _); refine run_v rfl ?_) | (with_reducible apply is_Bo .gt; refine bo_gtI rfl ?_) | (with_reducible apply is_Bo .len; refine bo_len rfl rfl ?_) | with_reducible refine .inl ⟨rfl, ?_⟩ | with_reducible refine .inr ⟨_, rfl, ?_⟩ | refine ⟨Nat.le_of_ble_eq_true rfl, ?_⟩ | with_reducible refine ⟨rfl, ?_⟩ | with_reducible refine ⟨isCont_l, ?_⟩))
    refine bo_eq rfl rfl rfl (eqD_ok (ok_int _) (ok_int _)) ?_
    rw [nodup_dd ed.nd]
    refine ⟨_, rfl, fun _ => ?_, fun z => by simp at z⟩
    (repeat (first | with_reducible apply run_snil | (with_reducible apply is_S (.ret _); refine run_scons (run_ret ?_)) | (with_reducible apply is_S (.ite _ _ _); refine run_scons (run_ite ?_)) | with_reducible apply run_k | with_reducible apply run_gl | with_reducible apply r_bi | with_reducible apply run_and_nil | with_reducible apply run_or_nil | with_reducible apply run_and_cons | with_reducible apply run_or_cons | with_reducible apply run_and | with_reducible apply run_or | with_reducible apply run_not | with_reducible apply run_nil | with_reducible apply run_cons | with_reducible apply run_anil | with_reducible apply run_acons | with_reducible apply run_ae | with_reducible apply r_call | with_reducible apply run_seq | with_reducible apply run_lcF | (with_reducible apply is_E (.v _); refine run_v rfl ?_) | (with_reducible apply is_Bo .gt; refine bo_gtI rfl ?_) | (with_reducible apply is_Bo .len; refine bo_len rfl rfl ?_) | with_reducible refine .inl ⟨rfl, ?_⟩ | with_reducible refine .inr ⟨_, rfl, ?_⟩ | refine ⟨Nat.le_of_ble_eq_true rfl, ?_⟩ | with_reducible refine ⟨rfl, ?_⟩ | with_reducible refine ⟨isCont_l, ?_⟩))
    exact .inl ⟨_, rfl, by simp, rfl⟩
omit hF in
mutual
theorem fine_nl : ∀ d, fine d = true → noLoc d = true
  | .non, _ => rfl
  | .bl _, _ => rfl
  | .int _, _ => rfl
  | .str _, _ => rfl
  | .tup xs, h => by simp only [fine] at h; simp only [noLoc]; exact fines_nl xs h
  | .lst xs, h => by simp only [fine] at h; simp only [noLoc]; exact fines_nl xs h
  | .dct _ _, h => by simp [fine] at h
  | .ins _ _ _, h => by simp [fine] at h
  | .loc _, h => by simp [fine] at h
theorem fines_nl : ∀ ds, fines ds = true → noLocs ds = true
  | [], _ => rfl
  | d :: ds, h => by
    simp only [fines, Bool.and_eq_true] at h
    simp only [noLocs, fine_nl d h.1, fines_nl ds h.2, Bool.and_self]
end
omit hF in
theorem nl_of {ds : List D} (h : ∀ d ∈ ds, Ok d) : noLocs ds = true := by
  obtain ⟨_, b, _⟩ := oks_of (n := 60) fun d hd => ⟨h d hd, (h d hd).dp⟩
  exact fines_nl ds b
theorem s_Graph {n : Nat} {m : List D} {x : D} {ns es : List D} (hm : noLocs m = true) (hx : Row x ns) (v : Vs ns) (ed : Es ns es) : RunC (call F ini W (n + 4) 6 [x, .lst es] m) fun d m' => d = grV ns (srt es) ∧ m' = m := by
  have eds := ed.eds v
  have hi := ed.hi
  have sd : sortD es = some (srt es) := sortD_ok Ed.ne (fun e he => (eds e he).sh) (fun e he => (eds e he).ok.1) (by omega)
  refine run_init (c := "Graph") (hF _ _ rfl) rfl rfl ?_
  show Mi.Run (evSs (Mi.call F ini W (n + 3)) ini W d_Graph_init.body [.v (.loc m.length), .v x, .v (.lst es)] (m ++ [.ins "Graph" [] []])) _
  dsimp only [d_Graph_init]
  (repeat (first | with_reducible apply run_snil | (with_reducible apply is_S (.fld _ _ _); refine run_snx (run_fld ?_)) | (with_reducible apply is_S (.ite _ _ _); refine run_scons (run_ite ?_)) | with_reducible apply run_k | with_reducible apply r_bi | with_reducible apply run_not | with_reducible apply run_nil | with_reducible apply run_cons | with_reducible apply run_anil | with_reducible apply run_acons | with_reducible apply run_ae | with_reducible apply r_call | (with_reducible apply is_E (.v _); refine run_v rfl ?_) | (with_reducible apply is_Bo .tuple; refine bo_tuple rfl rfl ?_) | with_reducible refine .inl ⟨rfl, ?_⟩ | with_reducible refine .inr ⟨_, rfl, ?_⟩ | refine ⟨Nat.le_of_ble_eq_true rfl, ?_⟩ | with_reducible refine ⟨rfl, ?_⟩ | with_reducible refine ⟨isCont_l, ?_⟩))
  refine (s_vertices hF (n := n + 1) hx v).imp fun d m2 ⟨e1, e2⟩ => ?_
  subst e1 e2
  refine ⟨_, rfl, ?_⟩
  refine ⟨_, rfl, (fun z => nomatch z), fun _ => ?_⟩
  (repeat (first | with_reducible apply run_snil | (with_reducible apply is_S (.fld _ _ _); refine run_snx (run_fld ?_)) | (with_reducible apply is_S (.ite _ _ _); refine run_scons (run_ite ?_)) | with_reducible apply run_k | with_reducible apply r_bi | with_reducible apply run_not | with_reducible apply run_nil | with_reducible apply run_cons | with_reducible apply run_anil | with_reducible apply run_acons | with_reducible apply run_ae | with_reducible apply r_call | (with_reducible apply is_E (.v _); refine run_v rfl ?_) | (with_reducible apply is_Bo .tuple; refine bo_tuple rfl rfl ?_) | with_reducible refine .inl ⟨rfl, ?_⟩ | with_reducible refine .inr ⟨_, rfl, ?_⟩ | refine ⟨Nat.le_of_ble_eq_true rfl, ?_⟩ | with_reducible refine ⟨rfl, ?_⟩ | with_reducible refine ⟨isCont_l, ?_⟩))
  refine (s_edges hF (n := n) hx (.l es) v ed).imp fun d m2 ⟨e1, e2⟩ => ?_
  subst e1 e2
  refine ⟨_, rfl, ?_⟩
  refine ⟨_, rfl, (fun z => nomatch z), fun _ => ?_⟩
  (repeat (first | with_reducible apply run_snil | (with_reducible apply is_S (.fld _ _ _); refine run_snx (run_fld ?_)) | (with_reducible apply is_S (.ite _ _ _); refine run_scons (run_ite ?_)) | with_reducible apply run_k | with_reducible apply r_bi | with_reducible apply run_not | with_reducible apply run_nil | with_reducible apply run_cons | with_reducible apply run_anil | with_reducible apply run_acons | with_reducible apply run_ae | with_reducible apply r_call | (with_reducible apply is_E (.v _); refine run_v rfl ?_) | (with_reducible apply is_Bo .tuple; refine bo_tuple rfl rfl ?_) | with_reducible refine .inl ⟨rfl, ?_⟩ | with_reducible refine .inr ⟨_, rfl, ?_⟩ | refine ⟨Nat.le_of_ble_eq_true rfl, ?_⟩ | with_reducible refine ⟨rfl, ?_⟩ | with_reducible refine ⟨isCont_l, ?_⟩))
  refine bo_tuple rfl hx.seq ?_
  refine ⟨m.length, "Graph", [], [], rfl, by simp, by simp, ?_⟩
  (repeat (first | with_reducible apply run_snil | (with_reducible apply is_S (.fld _ _ _); refine run_snx (run_fld ?_)) | (with_reducible apply is_S (.ite _ _ _); refine run_scons (run_ite ?_)) | with_reducible apply run_k | with_reducible apply r_bi | with_reducible apply run_not | with_reducible apply run_nil | with_reducible apply run_cons | with_reducible apply run_anil | with_reducible apply run_acons | with_reducible apply run_ae | with_reducible apply r_call | (with_reducible apply is_E (.v _); refine run_v rfl ?_) | (with_reducible apply is_Bo .tuple; refine bo_tuple rfl rfl ?_) | with_reducible refine .inl ⟨rfl, ?_⟩ | with_reducible refine .inr ⟨_, rfl, ?_⟩ | refine ⟨Nat.le_of_ble_eq_true rfl, ?_⟩ | with_reducible refine ⟨rfl, ?_⟩ | with_reducible refine ⟨isCont_l, ?_⟩))
  refine bo_sort rfl rfl sd ?_
  (repeat (first | with_reducible apply run_snil | (with_reducible apply is_S (.fld _ _ _); refine run_snx (run_fld ?_)) | (with_reducible apply is_S (.ite _ _ _); refine run_scons (run_ite ?_)) | with_reducible apply run_k | with_reducible apply r_bi | with_reducible apply run_not | with_reducible apply run_nil | with_reducible apply run_cons | with_reducible apply run_anil | with_reducible apply run_acons | with_reducible apply run_ae | with_reducible apply r_call | (with_reducible apply is_E (.v _); refine run_v rfl ?_) | (with_reducible apply is_Bo .tuple; refine bo_tuple rfl rfl ?_) | with_reducible refine .inl ⟨rfl, ?_⟩ | with_reducible refine .inr ⟨_, rfl, ?_⟩ | refine ⟨Nat.le_of_ble_eq_true rfl, ?_⟩ | with_reducible refine ⟨rfl, ?_⟩ | with_reducible refine ⟨isCont_l, ?_⟩))
  refine ⟨m.length, "Graph", ["vertices"], [.tup ns], rfl, by simp, by decide, ?_⟩
  (repeat (first | with_reducible apply run_snil | (with_reducible apply is_S (.fld _ _ _); refine run_snx (run_fld ?_)) | (with_reducible apply is_S (.ite _ _ _); refine run_scons (run_ite ?_)) | with_reducible apply run_k | with_reducible apply r_bi | with_reducible apply run_not | with_reducible apply run_nil | with_reducible apply run_cons | with_reducible apply run_anil | with_reducible apply run_acons | with_reducible apply run_ae | with_reducible apply r_call | (with_reducible apply is_E (.v _); refine run_v rfl ?_) | (with_reducible apply is_Bo .tuple; refine bo_tuple rfl rfl ?_) | with_reducible refine .inl ⟨rfl, ?_⟩ | with_reducible refine .inr ⟨_, rfl, ?_⟩ | refine ⟨Nat.le_of_ble_eq_true rfl, ?_⟩ | with_reducible refine ⟨rfl, ?_⟩ | with_reducible refine ⟨isCont_l, ?_⟩))
  refine ⟨grV ns (srt es), ?_, ?_, ?_, rfl, ?_⟩
  · simp
  · show (noLoc (.tup ns) && (noLoc (.tup (srt es)) && true)) = true
    simp only [noLoc]
    rw [nl_of fun d hd => (v.nm d hd).ok.1, nl_of fun d hd => (eds d (srt_mem.mp hd)).ok.1]
    rfl
  · simpa using hm
  · simp
end
end P
end
section
set_option maxRecDepth 100000
namespace P
open PySem Mi
theorem nl_iff {m : List D} : noLocs m = true ↔ ∀ (k : Nat) (d : D), m[k]? = some d → noLoc d = true := by
  induction m with
  | nil => exact ⟨fun _ k d h => by simp at h, fun _ => rfl⟩
  | cons x m ih =>
    simp only [noLocs, Bool.and_eq_true, ih]
    constructor
    · rintro ⟨h1, h2⟩ k d e
      cases k with
      | zero => simp at e; subst e; exact h1
      | succ k => exact h2 k d (by simpa using e)
    · intro h
      exact ⟨h 0 x rfl, fun k d e => h (k + 1) d (by simpa using e)⟩
theorem up_nl {m m' : List D} {s : Nat} (u : Up m m' s) (h : noLocs m = true) : noLocs m' = true := by
  rw [nl_iff] at h ⊢
  intro k d e
  by_cases c : k = s
  · subst c
    obtain ⟨a, b, c, _, _, _, e2⟩ := u.src
    rw [e] at e2
    cases e2
    rfl
  · rw [u.off k c] at e
    exact h k d e
theorem nl_app {m : List D} {d : D} (h : noLocs m = true) (k : noLoc d = true) : noLocs (m ++ [d]) = true := by
  induction m with
  | nil => simp [noLocs, k]
  | cons x m ih =>
    simp only [noLocs, Bool.and_eq_true, List.cons_append] at h ⊢
    exact ⟨h.1, ih h.2⟩
theorem prL_ok : ∀ {es : List D}, (∀ e ∈ es, Ed e) → ∀ d ∈ prL es, Ok d ∧ ddep d ≤ 2
  | [], _, d, h => by simp [prL] at h
  | e :: es, ed, d, h => by
    rw [prL, List.mem_append] at h
    rcases h with h | h
    · obtain ⟨f, hf, e1⟩ := List.mem_filterMap.mp h
      split at e1
      · cases e1
        have z : ∀ d ∈ [e, f], Ok d ∧ ddep d ≤ 1 := fun d hd => by
          simp only [List.mem_cons, List.not_mem_nil, or_false] at hd
          rcases hd with rfl | rfl
          · exact (ed _ List.mem_cons_self).ok
          · exact (ed _ (List.mem_cons_of_mem _ hf)).ok
        exact ⟨ok_tup (by decide) z, ddep_tup z⟩
      · cases e1
    · exact prL_ok (fun x hx => ed x (List.mem_cons_of_mem _ hx)) d h
theorem Vs.rev {ns : List D} (v : Vs ns) : Vs ns.reverse := ⟨fun d hd => v.nm d (List.mem_reverse.mp hd), (List.reverse_perm ns).nodup_iff.mpr v.nd, by rw [List.length_reverse]; exact v.lo, by rw [List.length_reverse]; exact v.hi⟩
theorem Es.perm {ns ns' es es' : List D} (h : Es ns es) (p : es'.Perm es) (q : ∀ d, d ∈ ns → d ∈ ns') : Es ns' es' :=
  ⟨fun e he => by
    obtain ⟨a, b, e1, ha, hb, l⟩ := h.ed e (p.mem_iff.mp he)
    exact ⟨a, b, e1, q a ha, q b hb, l⟩, p.nodup_iff.mpr h.nd, by rw [p.length_eq]; exact h.hi⟩
theorem plain (ns : List Int) (hl : ns.length ≤ 63) : ∃ m, call F ini 1000 12 1170 [.lst (ns.map .int)] [] = .ok (.bl true) m := by
  have main : RunC (call F ini 1000 12 1170 [.lst (ns.map .int)] []) fun d _ => d = .bl true := by
    have hF := sub03
    refine run_def (r := [.v (.lst (ns.map .int)), .un, .un, .un, .un, .un, .un, .un, .un]) rfl (by intro c h; cases h) rfl rfl ?_
    dsimp only [d_law]
    refine run_snx (run_for ?_)
    (repeat (first | with_reducible apply run_snil | (with_reducible apply is_S (.set _ _); refine run_snx (run_set ?_)) | (with_reducible apply is_S (.setO _ _); refine run_snx (run_setO ?_)) | (with_reducible apply is_S (.setT _ _); refine run_snx (run_setT ?_)) | (with_reducible apply is_S (.box _ _); refine run_snx (run_box ?_)) | (with_reducible apply is_S (.app _ _); refine run_snx (run_app rfl ?_)) | (with_reducible apply is_S (.revs _); refine run_snx (run_revs rfl ?_)) | (with_reducible apply is_S (.ret _); refine run_scons (run_ret ?_)) | (with_reducible apply is_S (.ite _ _ _); refine run_scons (run_ite ?_)) | with_reducible apply run_k | with_reducible apply r_bi | with_reducible apply run_or_nil | with_reducible apply run_or_cons | with_reducible apply run_or | with_reducible apply run_not | with_reducible apply run_lst | with_reducible apply run_nil | with_reducible apply run_cons | with_reducible apply run_anil | with_reducible apply run_acons | with_reducible apply run_ae | with_reducible apply r_call | with_reducible apply run_isi | with_reducible apply run_s11 | with_reducible apply run_seq | with_reducible apply run_rng | (with_reducible apply is_E (.v _); refine run_v rfl ?_) | (with_reducible apply is_A (.b _); refine run_ab rfl ?_) | (with_reducible apply is_E (.mk _ _); refine r_mk rfl ?_) | (with_reducible apply is_Bo .add; refine bo_addI rfl ?_) | (with_reducible apply is_Bo .rev; refine bo_rev rfl rfl ?_) | with_reducible refine .inl ⟨rfl, ?_⟩ | with_reducible refine .inr ⟨_, rfl, ?_⟩ | refine ⟨Nat.le_of_ble_eq_true rfl, ?_⟩ | with_reducible refine ⟨rfl, ?_⟩ | with_reducible refine ⟨isCont_l, ?_⟩))
    refine (s_cell hF (n := 10) (k := 0) (by decide) (by omega)).imp fun d m2 ⟨v, e1, e2⟩ => ?_
    subst e1 e2
    (repeat (first | with_reducible apply run_snil | (with_reducible apply is_S (.set _ _); refine run_snx (run_set ?_)) | (with_reducible apply is_S (.setO _ _); refine run_snx (run_setO ?_)) | (with_reducible apply is_S (.setT _ _); refine run_snx (run_setT ?_)) | (with_reducible apply is_S (.box _ _); refine run_snx (run_box ?_)) | (with_reducible apply is_S (.app _ _); refine run_snx (run_app rfl ?_)) | (with_reducible apply is_S (.revs _); refine run_snx (run_revs rfl ?_)) | (with_reducible apply is_S (.ret _); refine run_scons (run_ret ?_)) | (with_reducible apply is_S (.ite _ _ _); refine run_scons (run_ite ?_)) | with_reducible apply run_k | with_reducible apply r_bi | with_reducible apply run_or_nil | with_reducible apply run_or_cons | with_reducible apply run_or | with_reducible apply run_not | with_reducible apply run_lst | with_reducible apply run_nil | with_reducible apply run_cons | with_reducible apply run_anil | with_reducible apply run_acons | with_reducible apply run_ae | with_reducible apply r_call | with_reducible apply run_isi | with_reducible apply run_s11 | with_reducible apply run_seq | with_reducible apply run_rng | (with_reducible apply is_E (.v _); refine run_v rfl ?_) | (with_reducible apply is_A (.b _); refine run_ab rfl ?_) | (with_reducible apply is_E (.mk _ _); refine r_mk rfl ?_) | (with_reducible apply is_Bo .add; refine bo_addI rfl ?_) | (with_reducible apply is_Bo .rev; refine bo_rev rfl rfl ?_) | with_reducible refine .inl ⟨rfl, ?_⟩ | with_reducible refine .inr ⟨_, rfl, ?_⟩ | refine ⟨Nat.le_of_ble_eq_true rfl, ?_⟩ | with_reducible refine ⟨rfl, ?_⟩ | with_reducible refine ⟨isCont_l, ?_⟩))
    refine ⟨_, _, _, rfl, rfl, rfl, ?_⟩
    (repeat (first | with_reducible apply run_snil | (with_reducible apply is_S (.set _ _); refine run_snx (run_set ?_)) | (with_reducible apply is_S (.setO _ _); refine run_snx (run_setO ?_)) | (with_reducible apply is_S (.setT _ _); refine run_snx (run_setT ?_)) | (with_reducible apply is_S (.box _ _); refine run_snx (run_box ?_)) | (with_reducible apply is_S (.app _ _); refine run_snx (run_app rfl ?_)) | (with_reducible apply is_S (.revs _); refine run_snx (run_revs rfl ?_)) | (with_reducible apply is_S (.ret _); refine run_scons (run_ret ?_)) | (with_reducible apply is_S (.ite _ _ _); refine run_scons (run_ite ?_)) | with_reducible apply run_k | with_reducible apply r_bi | with_reducible apply run_or_nil | with_reducible apply run_or_cons | with_reducible apply run_or | with_reducible apply run_not | with_reducible apply run_lst | with_reducible apply run_nil | with_reducible apply run_cons | with_reducible apply run_anil | with_reducible apply run_acons | with_reducible apply run_ae | with_reducible apply r_call | with_reducible apply run_isi | with_reducible apply run_s11 | with_reducible apply run_seq | with_reducible apply run_rng | (with_reducible apply is_E (.v _); refine run_v rfl ?_) | (with_reducible apply is_A (.b _); refine run_ab rfl ?_) | (with_reducible apply is_E (.mk _ _); refine r_mk rfl ?_) | (with_reducible apply is_Bo .add; refine bo_addI rfl ?_) | (with_reducible apply is_Bo .rev; refine bo_rev rfl rfl ?_) | with_reducible refine .inl ⟨rfl, ?_⟩ | with_reducible refine .inr ⟨_, rfl, ?_⟩ | refine ⟨Nat.le_of_ble_eq_true rfl, ?_⟩ | with_reducible refine ⟨rfl, ?_⟩ | with_reducible refine ⟨isCont_l, ?_⟩))
    refine bo_addL (xs := [.int v]) (ys := slice (ns.map .int) (some 1) (some 6)) rfl ?_ ?_
    · have z : (slice (ns.map D.int) (some 1) (some 6)).length ≤ 63 := by
        refine Nat.le_trans (Nat.le_trans (by unfold slice; rw [List.length_drop]; exact Nat.sub_le _ _) (List.length_take_le _ _)) ?_
        show clip (ns.map D.int).length 6 ≤ 63
        unfold clip
        rw [List.length_map]
        split <;> omega
      simp only [List.length_cons, List.length_nil]
      omega
    have anInt : ∀ x ∈ [D.int v] ++ slice (ns.map .int) (some 1) (some 6), ∃ i, x = .int i := fun x hx => by
      rcases List.mem_append.mp hx with hx | hx
      · exact ⟨v, by simpa using hx⟩
      · obtain ⟨i, _, e⟩ := List.mem_map.mp (List.mem_of_mem_take (List.mem_of_mem_drop hx))
        exact ⟨i, e.symm⟩
    refine ⟨_, rfl, ?_⟩
    refine run_loopN (fun k r m => ∃ x1 x2 x3 x4 x5 x6 x7 x8, r = [.v (.lst (ns.map .int)), x1, x2, x3, x4, x5, x6, x7, x8] ∧ nO x1 ∧ nO x3 ∧ nO x4 ∧ nO x7 ∧ noLocs m = true) ⟨_, _, _, _, _, _, _, _, rfl, nO_un, nO_un, nO_un, nO_un, rfl⟩ ?_ ?_
    · rintro k x r m hk ⟨x1, x2, x3, x4, x5, x6, x7, x8, rfl, n1, n3, n4, n7, nl⟩
      obtain ⟨c, rfl⟩ := anInt x (List.mem_of_getElem? hk)
      refine ⟨_, asg rfl n1, ?_⟩
      (repeat (first | with_reducible apply run_snil | (with_reducible apply is_S (.set _ _); refine run_snx (run_set ?_)) | (with_reducible apply is_S (.setO _ _); refine run_snx (run_setO ?_)) | (with_reducible apply is_S (.setT _ _); refine run_snx (run_setT ?_)) | (with_reducible apply is_S (.box _ _); refine run_snx (run_box ?_)) | (with_reducible apply is_S (.app _ _); refine run_snx (run_app rfl ?_)) | (with_reducible apply is_S (.revs _); refine run_snx (run_revs rfl ?_)) | (with_reducible apply is_S (.ret _); refine run_scons (run_ret ?_)) | (with_reducible apply is_S (.ite _ _ _); refine run_scons (run_ite ?_)) | with_reducible apply run_k | with_reducible apply r_bi | with_reducible apply run_or_nil | with_reducible apply run_or_cons | with_reducible apply run_or | with_reducible apply run_not | with_reducible apply run_lst | with_reducible apply run_nil | with_reducible apply run_cons | with_reducible apply run_anil | with_reducible apply run_acons | with_reducible apply run_ae | with_reducible apply r_call | with_reducible apply run_isi | with_reducible apply run_s11 | with_reducible apply run_seq | with_reducible apply run_rng | (with_reducible apply is_E (.v _); refine run_v rfl ?_) | (with_reducible apply is_A (.b _); refine run_ab rfl ?_) | (with_reducible apply is_E (.mk _ _); refine r_mk rfl ?_) | (with_reducible apply is_Bo .add; refine bo_addI rfl ?_) | (with_reducible apply is_Bo .rev; refine bo_rev rfl rfl ?_) | with_reducible refine .inl ⟨rfl, ?_⟩ | with_reducible refine .inr ⟨_, rfl, ?_⟩ | refine ⟨Nat.le_of_ble_eq_true rfl, ?_⟩ | with_reducible refine ⟨rfl, ?_⟩ | with_reducible refine ⟨isCont_l, ?_⟩))
      refine (s_source hF (n := 10)).imp fun d m2 ⟨a, b, e1, ha, hb, e2⟩ => ?_
      subst e1 e2
      refine ⟨_, rfl, ?_⟩
      have s0 : Src (m2 ++ [.lst [.int a, .int b, .int 0]]) m2.length := ⟨a, b, 0, ha, hb, by decide, by simp⟩
      have nl0 : noLocs (m2 ++ [.lst [.int a, .int b, .int 0]]) = true := nl_app nl rfl
      (repeat (first | with_reducible apply run_snil | (with_reducible apply is_S (.set _ _); refine run_snx (run_set ?_)) | (with_reducible apply is_S (.setO _ _); refine run_snx (run_setO ?_)) | (with_reducible apply is_S (.setT _ _); refine run_snx (run_setT ?_)) | (with_reducible apply is_S (.box _ _); refine run_snx (run_box ?_)) | (with_reducible apply is_S (.app _ _); refine run_snx (run_app rfl ?_)) | (with_reducible apply is_S (.revs _); refine run_snx (run_revs rfl ?_)) | (with_reducible apply is_S (.ret _); refine run_scons (run_ret ?_)) | (with_reducible apply is_S (.ite _ _ _); refine run_scons (run_ite ?_)) | with_reducible apply run_k | with_reducible apply r_bi | with_reducible apply run_or_nil | with_reducible apply run_or_cons | with_reducible apply run_or | with_reducible apply run_not | with_reducible apply run_lst | with_reducible apply run_nil | with_reducible apply run_cons | with_reducible apply run_anil | with_reducible apply run_acons | with_reducible apply run_ae | with_reducible apply r_call | with_reducible apply run_isi | with_reducible apply run_s11 | with_reducible apply run_seq | with_reducible apply run_rng | (with_reducible apply is_E (.v _); refine run_v rfl ?_) | (with_reducible apply is_A (.b _); refine run_ab rfl ?_) | (with_reducible apply is_E (.mk _ _); refine r_mk rfl ?_) | (with_reducible apply is_Bo .add; refine bo_addI rfl ?_) | (with_reducible apply is_Bo .rev; refine bo_rev rfl rfl ?_) | with_reducible refine .inl ⟨rfl, ?_⟩ | with_reducible refine .inr ⟨_, rfl, ?_⟩ | refine ⟨Nat.le_of_ble_eq_true rfl, ?_⟩ | with_reducible refine ⟨rfl, ?_⟩ | with_reducible refine ⟨isCont_l, ?_⟩))
      refine (s_graph hF (n := 8) s0 (by decide) (by decide) (by decide) (by decide)).imp fun d mA ⟨vs, es, e, ⟨hv, _⟩, he, uA⟩ => ?_
      subst e
      have nlA := up_nl uA nl0
      refine ⟨_, asg2 rfl n3 rfl n4, ?_⟩
      have eds := he.eds hv
      have hi := he.hi
      (repeat (first | with_reducible apply run_snil | (with_reducible apply is_S (.set _ _); refine run_snx (run_set ?_)) | (with_reducible apply is_S (.setO _ _); refine run_snx (run_setO ?_)) | (with_reducible apply is_S (.setT _ _); refine run_snx (run_setT ?_)) | (with_reducible apply is_S (.box _ _); refine run_snx (run_box ?_)) | (with_reducible apply is_S (.app _ _); refine run_snx (run_app rfl ?_)) | (with_reducible apply is_S (.revs _); refine run_snx (run_revs rfl ?_)) | (with_reducible apply is_S (.ret _); refine run_scons (run_ret ?_)) | (with_reducible apply is_S (.ite _ _ _); refine run_scons (run_ite ?_)) | with_reducible apply run_k | with_reducible apply r_bi | with_reducible apply run_or_nil | with_reducible apply run_or_cons | with_reducible apply run_or | with_reducible apply run_not | with_reducible apply run_lst | with_reducible apply run_nil | with_reducible apply run_cons | with_reducible apply run_anil | with_reducible apply run_acons | with_reducible apply run_ae | with_reducible apply r_call | with_reducible apply run_isi | with_reducible apply run_s11 | with_reducible apply run_seq | with_reducible apply run_rng | (with_reducible apply is_E (.v _); refine run_v rfl ?_) | (with_reducible apply is_A (.b _); refine run_ab rfl ?_) | (with_reducible apply is_E (.mk _ _); refine r_mk rfl ?_) | (with_reducible apply is_Bo .add; refine bo_addI rfl ?_) | (with_reducible apply is_Bo .rev; refine bo_rev rfl rfl ?_) | with_reducible refine .inl ⟨rfl, ?_⟩ | with_reducible refine .inr ⟨_, rfl, ?_⟩ | refine ⟨Nat.le_of_ble_eq_true rfl, ?_⟩ | with_reducible refine ⟨rfl, ?_⟩ | with_reducible refine ⟨isCont_l, ?_⟩))
      refine (s_Graph hF (n := 7) nlA (.l vs) hv he).imp fun d m3 ⟨e1, e2⟩ => ?_
      subst e1 e2
      (repeat (first | with_reducible apply run_snil | (with_reducible apply is_S (.set _ _); refine run_snx (run_set ?_)) | (with_reducible apply is_S (.setO _ _); refine run_snx (run_setO ?_)) | (with_reducible apply is_S (.setT _ _); refine run_snx (run_setT ?_)) | (with_reducible apply is_S (.box _ _); refine run_snx (run_box ?_)) | (with_reducible apply is_S (.app _ _); refine run_snx (run_app rfl ?_)) | (with_reducible apply is_S (.revs _); refine run_snx (run_revs rfl ?_)) | (with_reducible apply is_S (.ret _); refine run_scons (run_ret ?_)) | (with_reducible apply is_S (.ite _ _ _); refine run_scons (run_ite ?_)) | with_reducible apply run_k | with_reducible apply r_bi | with_reducible apply run_or_nil | with_reducible apply run_or_cons | with_reducible apply run_or | with_reducible apply run_not | with_reducible apply run_lst | with_reducible apply run_nil | with_reducible apply run_cons | with_reducible apply run_anil | with_reducible apply run_acons | with_reducible apply run_ae | with_reducible apply r_call | with_reducible apply run_isi | with_reducible apply run_s11 | with_reducible apply run_seq | with_reducible apply run_rng | (with_reducible apply is_E (.v _); refine run_v rfl ?_) | (with_reducible apply is_A (.b _); refine run_ab rfl ?_) | (with_reducible apply is_E (.mk _ _); refine r_mk rfl ?_) | (with_reducible apply is_Bo .add; refine bo_addI rfl ?_) | (with_reducible apply is_Bo .rev; refine bo_rev rfl rfl ?_) | with_reducible refine .inl ⟨rfl, ?_⟩ | with_reducible refine .inr ⟨_, rfl, ?_⟩ | refine ⟨Nat.le_of_ble_eq_true rfl, ?_⟩ | with_reducible refine ⟨rfl, ?_⟩ | with_reducible refine ⟨isCont_l, ?_⟩))
      refine (s_lpairs hF (n := 10) eds (by omega)).imp fun d m4 ⟨e1, e2⟩ => ?_
      have st : (srt es).Pairwise fun a b => ltd a b = true := srt_strict (t := edT) (fun e h => (eds e h).sh) he.nd
      have lp : (srt es).flatMap (lpL (srt es)) = prL (srt es) := lp_eq (srt es) [] st
      rw [lp] at e1
      subst e1 e2
      have ed2 : ∀ e ∈ srt es, Ed e := fun e h => eds e (srt_mem.mp h)
      have l2 : (srt es).length = es.length := (srt_perm es).length_eq
      have okP : Ok (.lst (prL (srt es))) := ok_lst (n := 2) (by decide) (prL_ok ed2)
      have lenP : (prL (srt es)).length ≤ 1000 := by
        have z := len_prL (srt es)
        have y : (srt es).length * (srt es).length ≤ 18 * 18 := Nat.mul_le_mul (by omega) (by omega)
        omega
      (repeat (first | with_reducible apply run_snil | (with_reducible apply is_S (.set _ _); refine run_snx (run_set ?_)) | (with_reducible apply is_S (.setO _ _); refine run_snx (run_setO ?_)) | (with_reducible apply is_S (.setT _ _); refine run_snx (run_setT ?_)) | (with_reducible apply is_S (.box _ _); refine run_snx (run_box ?_)) | (with_reducible apply is_S (.app _ _); refine run_snx (run_app rfl ?_)) | (with_reducible apply is_S (.revs _); refine run_snx (run_revs rfl ?_)) | (with_reducible apply is_S (.ret _); refine run_scons (run_ret ?_)) | (with_reducible apply is_S (.ite _ _ _); refine run_scons (run_ite ?_)) | with_reducible apply run_k | with_reducible apply r_bi | with_reducible apply run_or_nil | with_reducible apply run_or_cons | with_reducible apply run_or | with_reducible apply run_not | with_reducible apply run_lst | with_reducible apply run_nil | with_reducible apply run_cons | with_reducible apply run_anil | with_reducible apply run_acons | with_reducible apply run_ae | with_reducible apply r_call | with_reducible apply run_isi | with_reducible apply run_s11 | with_reducible apply run_seq | with_reducible apply run_rng | (with_reducible apply is_E (.v _); refine run_v rfl ?_) | (with_reducible apply is_A (.b _); refine run_ab rfl ?_) | (with_reducible apply is_E (.mk _ _); refine r_mk rfl ?_) | (with_reducible apply is_Bo .add; refine bo_addI rfl ?_) | (with_reducible apply is_Bo .rev; refine bo_rev rfl rfl ?_) | with_reducible refine .inl ⟨rfl, ?_⟩ | with_reducible refine .inr ⟨_, rfl, ?_⟩ | refine ⟨Nat.le_of_ble_eq_true rfl, ?_⟩ | with_reducible refine ⟨rfl, ?_⟩ | with_reducible refine ⟨isCont_l, ?_⟩))
      refine run_snx (run_for ?_)
      (repeat (first | with_reducible apply run_snil | (with_reducible apply is_S (.set _ _); refine run_snx (run_set ?_)) | (with_reducible apply is_S (.setO _ _); refine run_snx (run_setO ?_)) | (with_reducible apply is_S (.setT _ _); refine run_snx (run_setT ?_)) | (with_reducible apply is_S (.box _ _); refine run_snx (run_box ?_)) | (with_reducible apply is_S (.app _ _); refine run_snx (run_app rfl ?_)) | (with_reducible apply is_S (.revs _); refine run_snx (run_revs rfl ?_)) | (with_reducible apply is_S (.ret _); refine run_scons (run_ret ?_)) | (with_reducible apply is_S (.ite _ _ _); refine run_scons (run_ite ?_)) | with_reducible apply run_k | with_reducible apply r_bi | with_reducible apply run_or_nil | with_reducible apply run_or_cons | with_reducible apply run_or | with_reducible apply run_not | with_reducible apply run_lst | with_reducible apply run_nil | with_reducible apply run_cons | with_reducible apply run_anil | with_reducible apply run_acons | with_reducible apply run_ae | with_reducible apply r_call | with_reducible apply run_isi | with_reducible apply run_s11 | with_reducible apply run_seq | with_reducible apply run_rng | (with_reducible apply is_E (.v _); refine run_v rfl ?_) | (with_reducible apply is_A (.b _); refine run_ab rfl ?_) | (with_reducible apply is_E (.mk _ _); refine r_mk rfl ?_) | (with_reducible apply is_Bo .add; refine bo_addI rfl ?_) | (with_reducible apply is_Bo .rev; refine bo_rev rfl rfl ?_) | with_reducible refine .inl ⟨rfl, ?_⟩ | with_reducible refine .inr ⟨_, rfl, ?_⟩ | refine ⟨Nat.le_of_ble_eq_true rfl, ?_⟩ | with_reducible refine ⟨rfl, ?_⟩ | with_reducible refine ⟨isCont_l, ?_⟩))
      refine ⟨_, rfl, rfl, ?_⟩
      refine run_loopN (fun k r m => ∃ x7 x8, r = [.v (.lst (ns.map .int)), .v (.int c), .v (.loc m2.length), .v (.lst vs), .v (.lst es), .v (grV vs (srt es)), .v (.lst (prL (srt es))), x7, x8] ∧ nO x7 ∧ m = m4) ⟨x7, x8, rfl, n7, rfl⟩ ?_ ?_
      · rintro k x r m hk ⟨x7, x8, rfl, n7, rfl⟩
        refine ⟨_, asg rfl n7, ?_⟩
        (repeat (first | with_reducible apply run_snil | (with_reducible apply is_S (.set _ _); refine run_snx (run_set ?_)) | (with_reducible apply is_S (.setO _ _); refine run_snx (run_setO ?_)) | (with_reducible apply is_S (.setT _ _); refine run_snx (run_setT ?_)) | (with_reducible apply is_S (.box _ _); refine run_snx (run_box ?_)) | (with_reducible apply is_S (.app _ _); refine run_snx (run_app rfl ?_)) | (with_reducible apply is_S (.revs _); refine run_snx (run_revs rfl ?_)) | (with_reducible apply is_S (.ret _); refine run_scons (run_ret ?_)) | (with_reducible apply is_S (.ite _ _ _); refine run_scons (run_ite ?_)) | with_reducible apply run_k | with_reducible apply r_bi | with_reducible apply run_or_nil | with_reducible apply run_or_cons | with_reducible apply run_or | with_reducible apply run_not | with_reducible apply run_lst | with_reducible apply run_nil | with_reducible apply run_cons | with_reducible apply run_anil | with_reducible apply run_acons | with_reducible apply run_ae | with_reducible apply r_call | with_reducible apply run_isi | with_reducible apply run_s11 | with_reducible apply run_seq | with_reducible apply run_rng | (with_reducible apply is_E (.v _); refine run_v rfl ?_) | (with_reducible apply is_A (.b _); refine run_ab rfl ?_) | (with_reducible apply is_E (.mk _ _); refine r_mk rfl ?_) | (with_reducible apply is_Bo .add; refine bo_addI rfl ?_) | (with_reducible apply is_Bo .rev; refine bo_rev rfl rfl ?_) | with_reducible refine .inl ⟨rfl, ?_⟩ | with_reducible refine .inr ⟨_, rfl, ?_⟩ | refine ⟨Nat.le_of_ble_eq_true rfl, ?_⟩ | with_reducible refine ⟨rfl, ?_⟩ | with_reducible refine ⟨isCont_l, ?_⟩))
        refine (s_pairs hF (n := 9) ed2 (by omega)).imp fun d m5 ⟨e1, e2⟩ => ?_
        subst e1 e2
        (repeat (first | with_reducible apply run_snil | (with_reducible apply is_S (.set _ _); refine run_snx (run_set ?_)) | (with_reducible apply is_S (.setO _ _); refine run_snx (run_setO ?_)) | (with_reducible apply is_S (.setT _ _); refine run_snx (run_setT ?_)) | (with_reducible apply is_S (.box _ _); refine run_snx (run_box ?_)) | (with_reducible apply is_S (.app _ _); refine run_snx (run_app rfl ?_)) | (with_reducible apply is_S (.revs _); refine run_snx (run_revs rfl ?_)) | (with_reducible apply is_S (.ret _); refine run_scons (run_ret ?_)) | (with_reducible apply is_S (.ite _ _ _); refine run_scons (run_ite ?_)) | with_reducible apply run_k | with_reducible apply r_bi | with_reducible apply run_or_nil | with_reducible apply run_or_cons | with_reducible apply run_or | with_reducible apply run_not | with_reducible apply run_lst | with_reducible apply run_nil | with_reducible apply run_cons | with_reducible apply run_anil | with_reducible apply run_acons | with_reducible apply run_ae | with_reducible apply r_call | with_reducible apply run_isi | with_reducible apply run_s11 | with_reducible apply run_seq | with_reducible apply run_rng | (with_reducible apply is_E (.v _); refine run_v rfl ?_) | (with_reducible apply is_A (.b _); refine run_ab rfl ?_) | (with_reducible apply is_E (.mk _ _); refine r_mk rfl ?_) | (with_reducible apply is_Bo .add; refine bo_addI rfl ?_) | (with_reducible apply is_Bo .rev; refine bo_rev rfl rfl ?_) | with_reducible refine .inl ⟨rfl, ?_⟩ | with_reducible refine .inr ⟨_, rfl, ?_⟩ | refine ⟨Nat.le_of_ble_eq_true rfl, ?_⟩ | with_reducible refine ⟨rfl, ?_⟩ | with_reducible refine ⟨isCont_l, ?_⟩))
        refine bo_ne rfl rfl rfl (eqD_ok okP okP) ?_
        refine ⟨_, rfl, fun _ => ?_, fun z => by simp at z⟩
        (repeat (first | with_reducible apply run_snil | (with_reducible apply is_S (.set _ _); refine run_snx (run_set ?_)) | (with_reducible apply is_S (.setO _ _); refine run_snx (run_setO ?_)) | (with_reducible apply is_S (.setT _ _); refine run_snx (run_setT ?_)) | (with_reducible apply is_S (.box _ _); refine run_snx (run_box ?_)) | (with_reducible apply is_S (.app _ _); refine run_snx (run_app rfl ?_)) | (with_reducible apply is_S (.revs _); refine run_snx (run_revs rfl ?_)) | (with_reducible apply is_S (.ret _); refine run_scons (run_ret ?_)) | (with_reducible apply is_S (.ite _ _ _); refine run_scons (run_ite ?_)) | with_reducible apply run_k | with_reducible apply r_bi | with_reducible apply run_or_nil | with_reducible apply run_or_cons | with_reducible apply run_or | with_reducible apply run_not | with_reducible apply run_lst | with_reducible apply run_nil | with_reducible apply run_cons | with_reducible apply run_anil | with_reducible apply run_acons | with_reducible apply run_ae | with_reducible apply r_call | with_reducible apply run_isi | with_reducible apply run_s11 | with_reducible apply run_seq | with_reducible apply run_rng | (with_reducible apply is_E (.v _); refine run_v rfl ?_) | (with_reducible apply is_A (.b _); refine run_ab rfl ?_) | (with_reducible apply is_E (.mk _ _); refine r_mk rfl ?_) | (with_reducible apply is_Bo .add; refine bo_addI rfl ?_) | (with_reducible apply is_Bo .rev; refine bo_rev rfl rfl ?_) | with_reducible refine .inl ⟨rfl, ?_⟩ | with_reducible refine .inr ⟨_, rfl, ?_⟩ | refine ⟨Nat.le_of_ble_eq_true rfl, ?_⟩ | with_reducible refine ⟨rfl, ?_⟩ | with_reducible refine ⟨isCont_l, ?_⟩))
        refine ⟨_, _, rfl, rfl, ?_⟩
        refine ⟨_, rfl, ?_⟩
        refine ⟨_, rfl, fun _ => ?_, fun z => nomatch z⟩
        (repeat (first | with_reducible apply run_snil | (with_reducible apply is_S (.set _ _); refine run_snx (run_set ?_)) | (with_reducible apply is_S (.setO _ _); refine run_snx (run_setO ?_)) | (with_reducible apply is_S (.setT _ _); refine run_snx (run_setT ?_)) | (with_reducible apply is_S (.box _ _); refine run_snx (run_box ?_)) | (with_reducible apply is_S (.app _ _); refine run_snx (run_app rfl ?_)) | (with_reducible apply is_S (.revs _); refine run_snx (run_revs rfl ?_)) | (with_reducible apply is_S (.ret _); refine run_scons (run_ret ?_)) | (with_reducible apply is_S (.ite _ _ _); refine run_scons (run_ite ?_)) | with_reducible apply run_k | with_reducible apply r_bi | with_reducible apply run_or_nil | with_reducible apply run_or_cons | with_reducible apply run_or | with_reducible apply run_not | with_reducible apply run_lst | with_reducible apply run_nil | with_reducible apply run_cons | with_reducible apply run_anil | with_reducible apply run_acons | with_reducible apply run_ae | with_reducible apply r_call | with_reducible apply run_isi | with_reducible apply run_s11 | with_reducible apply run_seq | with_reducible apply run_rng | (with_reducible apply is_E (.v _); refine run_v rfl ?_) | (with_reducible apply is_A (.b _); refine run_ab rfl ?_) | (with_reducible apply is_E (.mk _ _); refine r_mk rfl ?_) | (with_reducible apply is_Bo .add; refine bo_addI rfl ?_) | (with_reducible apply is_Bo .rev; refine bo_rev rfl rfl ?_) | with_reducible refine .inl ⟨rfl, ?_⟩ | with_reducible refine .inr ⟨_, rfl, ?_⟩ | refine ⟨Nat.le_of_ble_eq_true rfl, ?_⟩ | with_reducible refine ⟨rfl, ?_⟩ | with_reducible refine ⟨isCont_l, ?_⟩))
        refine ⟨_, rfl, (fun z => nomatch z), fun _ => ?_⟩
        (repeat (first | with_reducible apply run_snil | (with_reducible apply is_S (.set _ _); refine run_snx (run_set ?_)) | (with_reducible apply is_S (.setO _ _); refine run_snx (run_setO ?_)) | (with_reducible apply is_S (.setT _ _); refine run_snx (run_setT ?_)) | (with_reducible apply is_S (.box _ _); refine run_snx (run_box ?_)) | (with_reducible apply is_S (.app _ _); refine run_snx (run_app rfl ?_)) | (with_reducible apply is_S (.revs _); refine run_snx (run_revs rfl ?_)) | (with_reducible apply is_S (.ret _); refine run_scons (run_ret ?_)) | (with_reducible apply is_S (.ite _ _ _); refine run_scons (run_ite ?_)) | with_reducible apply run_k | with_reducible apply r_bi | with_reducible apply run_or_nil | with_reducible apply run_or_cons | with_reducible apply run_or | with_reducible apply run_not | with_reducible apply run_lst | with_reducible apply run_nil | with_reducible apply run_cons | with_reducible apply run_anil | with_reducible apply run_acons | with_reducible apply run_ae | with_reducible apply r_call | with_reducible apply run_isi | with_reducible apply run_s11 | with_reducible apply run_seq | with_reducible apply run_rng | (with_reducible apply is_E (.v _); refine run_v rfl ?_) | (with_reducible apply is_A (.b _); refine run_ab rfl ?_) | (with_reducible apply is_E (.mk _ _); refine r_mk rfl ?_) | (with_reducible apply is_Bo .add; refine bo_addI rfl ?_) | (with_reducible apply is_Bo .rev; refine bo_rev rfl rfl ?_) | with_reducible refine .inl ⟨rfl, ?_⟩ | with_reducible refine .inr ⟨_, rfl, ?_⟩ | refine ⟨Nat.le_of_ble_eq_true rfl, ?_⟩ | with_reducible refine ⟨rfl, ?_⟩ | with_reducible refine ⟨isCont_l, ?_⟩))
        refine ⟨_, rfl, by rw [List.length_reverse]; omega, ?_⟩
        (repeat (first | with_reducible apply run_snil | (with_reducible apply is_S (.set _ _); refine run_snx (run_set ?_)) | (with_reducible apply is_S (.setO _ _); refine run_snx (run_setO ?_)) | (with_reducible apply is_S (.setT _ _); refine run_snx (run_setT ?_)) | (with_reducible apply is_S (.box _ _); refine run_snx (run_box ?_)) | (with_reducible apply is_S (.app _ _); refine run_snx (run_app rfl ?_)) | (with_reducible apply is_S (.revs _); refine run_snx (run_revs rfl ?_)) | (with_reducible apply is_S (.ret _); refine run_scons (run_ret ?_)) | (with_reducible apply is_S (.ite _ _ _); refine run_scons (run_ite ?_)) | with_reducible apply run_k | with_reducible apply r_bi | with_reducible apply run_or_nil | with_reducible apply run_or_cons | with_reducible apply run_or | with_reducible apply run_not | with_reducible apply run_lst | with_reducible apply run_nil | with_reducible apply run_cons | with_reducible apply run_anil | with_reducible apply run_acons | with_reducible apply run_ae | with_reducible apply r_call | with_reducible apply run_isi | with_reducible apply run_s11 | with_reducible apply run_seq | with_reducible apply run_rng | (with_reducible apply is_E (.v _); refine run_v rfl ?_) | (with_reducible apply is_A (.b _); refine run_ab rfl ?_) | (with_reducible apply is_E (.mk _ _); refine r_mk rfl ?_) | (with_reducible apply is_Bo .add; refine bo_addI rfl ?_) | (with_reducible apply is_Bo .rev; refine bo_rev rfl rfl ?_) | with_reducible refine .inl ⟨rfl, ?_⟩ | with_reducible refine .inr ⟨_, rfl, ?_⟩ | refine ⟨Nat.le_of_ble_eq_true rfl, ?_⟩ | with_reducible refine ⟨rfl, ?_⟩ | with_reducible refine ⟨isCont_l, ?_⟩))
        exact ⟨_, _, rfl, nO_v _, rfl⟩
      · rintro r m ⟨x7, x8, rfl, n7, rfl⟩
        (repeat (first | with_reducible apply run_snil | (with_reducible apply is_S (.set _ _); refine run_snx (run_set ?_)) | (with_reducible apply is_S (.setO _ _); refine run_snx (run_setO ?_)) | (with_reducible apply is_S (.setT _ _); refine run_snx (run_setT ?_)) | (with_reducible apply is_S (.box _ _); refine run_snx (run_box ?_)) | (with_reducible apply is_S (.app _ _); refine run_snx (run_app rfl ?_)) | (with_reducible apply is_S (.revs _); refine run_snx (run_revs rfl ?_)) | (with_reducible apply is_S (.ret _); refine run_scons (run_ret ?_)) | (with_reducible apply is_S (.ite _ _ _); refine run_scons (run_ite ?_)) | with_reducible apply run_k | with_reducible apply r_bi | with_reducible apply run_or_nil | with_reducible apply run_or_cons | with_reducible apply run_or | with_reducible apply run_not | with_reducible apply run_lst | with_reducible apply run_nil | with_reducible apply run_cons | with_reducible apply run_anil | with_reducible apply run_acons | with_reducible apply run_ae | with_reducible apply r_call | with_reducible apply run_isi | with_reducible apply run_s11 | with_reducible apply run_seq | with_reducible apply run_rng | (with_reducible apply is_E (.v _); refine run_v rfl ?_) | (with_reducible apply is_A (.b _); refine run_ab rfl ?_) | (with_reducible apply is_E (.mk _ _); refine r_mk rfl ?_) | (with_reducible apply is_Bo .add; refine bo_addI rfl ?_) | (with_reducible apply is_Bo .rev; refine bo_rev rfl rfl ?_) | with_reducible refine .inl ⟨rfl, ?_⟩ | with_reducible refine .inr ⟨_, rfl, ?_⟩ | refine ⟨Nat.le_of_ble_eq_true rfl, ?_⟩ | with_reducible refine ⟨rfl, ?_⟩ | with_reducible refine ⟨isCont_l, ?_⟩))
        refine (s_mixed hF (n := 9) uA.src (.l es) (fun e h => ⟨(eds e h).ok.1, by have := (eds e h).ok.2; omega⟩) (by omega) (by decide)).imp fun d mB ⟨es2, e, pe, uB⟩ => ?_
        subst e
        (repeat (first | with_reducible apply run_snil | (with_reducible apply is_S (.set _ _); refine run_snx (run_set ?_)) | (with_reducible apply is_S (.setO _ _); refine run_snx (run_setO ?_)) | (with_reducible apply is_S (.setT _ _); refine run_snx (run_setT ?_)) | (with_reducible apply is_S (.box _ _); refine run_snx (run_box ?_)) | (with_reducible apply is_S (.app _ _); refine run_snx (run_app rfl ?_)) | (with_reducible apply is_S (.revs _); refine run_snx (run_revs rfl ?_)) | (with_reducible apply is_S (.ret _); refine run_scons (run_ret ?_)) | (with_reducible apply is_S (.ite _ _ _); refine run_scons (run_ite ?_)) | with_reducible apply run_k | with_reducible apply r_bi | with_reducible apply run_or_nil | with_reducible apply run_or_cons | with_reducible apply run_or | with_reducible apply run_not | with_reducible apply run_lst | with_reducible apply run_nil | with_reducible apply run_cons | with_reducible apply run_anil | with_reducible apply run_acons | with_reducible apply run_ae | with_reducible apply r_call | with_reducible apply run_isi | with_reducible apply run_s11 | with_reducible apply run_seq | with_reducible apply run_rng | (with_reducible apply is_E (.v _); refine run_v rfl ?_) | (with_reducible apply is_A (.b _); refine run_ab rfl ?_) | (with_reducible apply is_E (.mk _ _); refine r_mk rfl ?_) | (with_reducible apply is_Bo .add; refine bo_addI rfl ?_) | (with_reducible apply is_Bo .rev; refine bo_rev rfl rfl ?_) | with_reducible refine .inl ⟨rfl, ?_⟩ | with_reducible refine .inr ⟨_, rfl, ?_⟩ | refine ⟨Nat.le_of_ble_eq_true rfl, ?_⟩ | with_reducible refine ⟨rfl, ?_⟩ | with_reducible refine ⟨isCont_l, ?_⟩))
        have nlB := up_nl uB nlA
        have he2 : Es vs.reverse es2 := he.perm pe fun d hd => List.mem_reverse.mpr hd
        refine (s_Graph hF (n := 7) nlB (.l vs.reverse) hv.rev he2).imp fun d m6 ⟨e1, e2⟩ => ?_
        have se : srt es2 = srt es := (srt_eq (t := edT) (fun e h => (eds e h).sh) pe.symm).symm
        rw [se] at e1
        subst e1 e2
        (repeat (first | with_reducible apply run_snil | (with_reducible apply is_S (.set _ _); refine run_snx (run_set ?_)) | (with_reducible apply is_S (.setO _ _); refine run_snx (run_setO ?_)) | (with_reducible apply is_S (.setT _ _); refine run_snx (run_setT ?_)) | (with_reducible apply is_S (.box _ _); refine run_snx (run_box ?_)) | (with_reducible apply is_S (.app _ _); refine run_snx (run_app rfl ?_)) | (with_reducible apply is_S (.revs _); refine run_snx (run_revs rfl ?_)) | (with_reducible apply is_S (.ret _); refine run_scons (run_ret ?_)) | (with_reducible apply is_S (.ite _ _ _); refine run_scons (run_ite ?_)) | with_reducible apply run_k | with_reducible apply r_bi | with_reducible apply run_or_nil | with_reducible apply run_or_cons | with_reducible apply run_or | with_reducible apply run_not | with_reducible apply run_lst | with_reducible apply run_nil | with_reducible apply run_cons | with_reducible apply run_anil | with_reducible apply run_acons | with_reducible apply run_ae | with_reducible apply r_call | with_reducible apply run_isi | with_reducible apply run_s11 | with_reducible apply run_seq | with_reducible apply run_rng | (with_reducible apply is_E (.v _); refine run_v rfl ?_) | (with_reducible apply is_A (.b _); refine run_ab rfl ?_) | (with_reducible apply is_E (.mk _ _); refine r_mk rfl ?_) | (with_reducible apply is_Bo .add; refine bo_addI rfl ?_) | (with_reducible apply is_Bo .rev; refine bo_rev rfl rfl ?_) | with_reducible refine .inl ⟨rfl, ?_⟩ | with_reducible refine .inr ⟨_, rfl, ?_⟩ | refine ⟨Nat.le_of_ble_eq_true rfl, ?_⟩ | with_reducible refine ⟨rfl, ?_⟩ | with_reducible refine ⟨isCont_l, ?_⟩))
        refine (s_pairs hF (n := 9) ed2 (by omega)).imp fun d m7 ⟨e1, e2⟩ => ?_
        subst e1 e2
        (repeat (first | with_reducible apply run_snil | (with_reducible apply is_S (.set _ _); refine run_snx (run_set ?_)) | (with_reducible apply is_S (.setO _ _); refine run_snx (run_setO ?_)) | (with_reducible apply is_S (.setT _ _); refine run_snx (run_setT ?_)) | (with_reducible apply is_S (.box _ _); refine run_snx (run_box ?_)) | (with_reducible apply is_S (.app _ _); refine run_snx (run_app rfl ?_)) | (with_reducible apply is_S (.revs _); refine run_snx (run_revs rfl ?_)) | (with_reducible apply is_S (.ret _); refine run_scons (run_ret ?_)) | (with_reducible apply is_S (.ite _ _ _); refine run_scons (run_ite ?_)) | with_reducible apply run_k | with_reducible apply r_bi | with_reducible apply run_or_nil | with_reducible apply run_or_cons | with_reducible apply run_or | with_reducible apply run_not | with_reducible apply run_lst | with_reducible apply run_nil | with_reducible apply run_cons | with_reducible apply run_anil | with_reducible apply run_acons | with_reducible apply run_ae | with_reducible apply r_call | with_reducible apply run_isi | with_reducible apply run_s11 | with_reducible apply run_seq | with_reducible apply run_rng | (with_reducible apply is_E (.v _); refine run_v rfl ?_) | (with_reducible apply is_A (.b _); refine run_ab rfl ?_) | (with_reducible apply is_E (.mk _ _); refine r_mk rfl ?_) | (with_reducible apply is_Bo .add; refine bo_addI rfl ?_) | (with_reducible apply is_Bo .rev; refine bo_rev rfl rfl ?_) | with_reducible refine .inl ⟨rfl, ?_⟩ | with_reducible refine .inr ⟨_, rfl, ?_⟩ | refine ⟨Nat.le_of_ble_eq_true rfl, ?_⟩ | with_reducible refine ⟨rfl, ?_⟩ | with_reducible refine ⟨isCont_l, ?_⟩))
        refine bo_ne rfl rfl rfl (eqD_ok okP okP) ?_
        refine ⟨_, rfl, (fun z => by simp at z), fun _ => ?_⟩
        (repeat (first | with_reducible apply run_snil | (with_reducible apply is_S (.set _ _); refine run_snx (run_set ?_)) | (with_reducible apply is_S (.setO _ _); refine run_snx (run_setO ?_)) | (with_reducible apply is_S (.setT _ _); refine run_snx (run_setT ?_)) | (with_reducible apply is_S (.box _ _); refine run_snx (run_box ?_)) | (with_reducible apply is_S (.app _ _); refine run_snx (run_app rfl ?_)) | (with_reducible apply is_S (.revs _); refine run_snx (run_revs rfl ?_)) | (with_reducible apply is_S (.ret _); refine run_scons (run_ret ?_)) | (with_reducible apply is_S (.ite _ _ _); refine run_scons (run_ite ?_)) | with_reducible apply run_k | with_reducible apply r_bi | with_reducible apply run_or_nil | with_reducible apply run_or_cons | with_reducible apply run_or | with_reducible apply run_not | with_reducible apply run_lst | with_reducible apply run_nil | with_reducible apply run_cons | with_reducible apply run_anil | with_reducible apply run_acons | with_reducible apply run_ae | with_reducible apply r_call | with_reducible apply run_isi | with_reducible apply run_s11 | with_reducible apply run_seq | with_reducible apply run_rng | (with_reducible apply is_E (.v _); refine run_v rfl ?_) | (with_reducible apply is_A (.b _); refine run_ab rfl ?_) | (with_reducible apply is_E (.mk _ _); refine r_mk rfl ?_) | (with_reducible apply is_Bo .add; refine bo_addI rfl ?_) | (with_reducible apply is_Bo .rev; refine bo_rev rfl rfl ?_) | with_reducible refine .inl ⟨rfl, ?_⟩ | with_reducible refine .inr ⟨_, rfl, ?_⟩ | refine ⟨Nat.le_of_ble_eq_true rfl, ?_⟩ | with_reducible refine ⟨rfl, ?_⟩ | with_reducible refine ⟨isCont_l, ?_⟩))
        exact ⟨_, _, _, _, _, _, _, _, rfl, nO_v _, nO_v _, nO_v _, n7, nlB⟩
    · rintro r m ⟨x1, x2, x3, x4, x5, x6, x7, x8, rfl, n1, n3, n4, n7, nl⟩
      (repeat (first | with_reducible apply run_snil | (with_reducible apply is_S (.set _ _); refine run_snx (run_set ?_)) | (with_reducible apply is_S (.setO _ _); refine run_snx (run_setO ?_)) | (with_reducible apply is_S (.setT _ _); refine run_snx (run_setT ?_)) | (with_reducible apply is_S (.box _ _); refine run_snx (run_box ?_)) | (with_reducible apply is_S (.app _ _); refine run_snx (run_app rfl ?_)) | (with_reducible apply is_S (.revs _); refine run_snx (run_revs rfl ?_)) | (with_reducible apply is_S (.ret _); refine run_scons (run_ret ?_)) | (with_reducible apply is_S (.ite _ _ _); refine run_scons (run_ite ?_)) | with_reducible apply run_k | with_reducible apply r_bi | with_reducible apply run_or_nil | with_reducible apply run_or_cons | with_reducible apply run_or | with_reducible apply run_not | with_reducible apply run_lst | with_reducible apply run_nil | with_reducible apply run_cons | with_reducible apply run_anil | with_reducible apply run_acons | with_reducible apply run_ae | with_reducible apply r_call | with_reducible apply run_isi | with_reducible apply run_s11 | with_reducible apply run_seq | with_reducible apply run_rng | (with_reducible apply is_E (.v _); refine run_v rfl ?_) | (with_reducible apply is_A (.b _); refine run_ab rfl ?_) | (with_reducible apply is_E (.mk _ _); refine r_mk rfl ?_) | (with_reducible apply is_Bo .add; refine bo_addI rfl ?_) | (with_reducible apply is_Bo .rev; refine bo_rev rfl rfl ?_) | with_reducible refine .inl ⟨rfl, ?_⟩ | with_reducible refine .inr ⟨_, rfl, ?_⟩ | refine ⟨Nat.le_of_ble_eq_true rfl, ?_⟩ | with_reducible refine ⟨rfl, ?_⟩ | with_reducible refine ⟨isCont_l, ?_⟩))
      exact .inl ⟨_, rfl, rfl⟩
  obtain ⟨d, m, e, rfl⟩ := main
  exact ⟨m, e⟩
end P
end
section
set_option maxRecDepth 100000
open PySem L2 Mi
namespace P
abbrev gam (K : PySem.W.Frag) (w : World) (C0 : Addr) : Glo := ⟨K, w, fun c => if c = "Graph" then some C0 else none⟩
theorem gam_c {K : PySem.W.Frag} {w : World} {C0 : Addr} : (gam K w C0).cA "Graph" = some C0 := by
  show (if ("Graph" : Str) = "Graph" then some C0 else none) = some C0
  exact if_pos rfl
theorem ac {α : Type} {Q : α → Prop} {a : α} {l : List α} (h : Q a) (k : ∀ x ∈ l, Q x) : ∀ x ∈ a :: l, Q x := fun x hx => by
  rcases List.mem_cons.mp hx with rfl | hx
  · exact h
  · exact k x hx
theorem an {α : Type} {Q : α → Prop} : ∀ x ∈ ([] : List α), Q x := fun _ h => nomatch h
/-- law's promise at the law's call -/
def spLaw (K : PySem.W.Frag) (w : World) (C0 : Addr) : Sp := spM (gam K w C0) .any 1 (call F ini 1000 12 1170)
structure Facts (K : PySem.W.Frag) (C0 : Addr) : Prop where
  f67 : DefFacts K "is_name" (top 6)
  f77 : DefFacts K "is_row" (top 7)
  f23 : DefFacts K "are_vertices" (top 11)
  f81 : DefFacts K "joins" (top 12)
  f18 : DefFacts K "are_edges" (top 13)
  f16 : DefFacts K "are_apart" (top 15)
  f95 : DefFacts K "pairs" (top 16)
  f1022 : DefFacts K "_law_cell_at" (top 18)
  f1151 : DefFacts K "_law_source_of" (top 19)
  f1102 : DefFacts K "_law_next" (top 20)
  f1111 : DefFacts K "_law_one" (top 21)
  f1096 : DefFacts K "_law_mixed" (top 22)
  f1068 : DefFacts K "_law_graph" (top 23)
  f1114 : DefFacts K "_law_pairs" (top 24)
  f1170 : DefFacts K "law" (top 25)
  aC : PySem.W.nsIn K mainGlobals "Graph" = some (some (.ref C0))
  g6 : ClsFacts K "Graph" "Graph.__init__" (inClass (top 14) 0) C0
  gg : ClsGet K C0 ["edges", "vertices"]
  k0 : ClsK K C0
  k1 : ClsSub K C0
  bl : ∀ x ∈ blts, PySem.W.nsIn K mainGlobals x = some none
  v1 : ∃ t, PySem.W.nsIn K mainGlobals "LETTERS" = some (some (.str "abcdefghijklmnopqrstuvwxyz" t))
  v2 : ∃ t, PySem.W.nsIn K mainGlobals "MAX_LENGTH" = some (some (.int 8 t))
  v3 : ∃ t, PySem.W.nsIn K mainGlobals "MAX_VERTICES" = some (some (.int 8 t))
  v4 : ∃ t, PySem.W.nsIn K mainGlobals "MAX_EDGES" = some (some (.int 18 t))
theorem pok {Pr : Program} {w : World} {K : PySem.W.Frag} {h base : Heap} {mg : Str → Option Value} {C0 : Addr} (X : K.In h) (G : h.Ns mainGlobals mg) (f : Facts K C0) : POk Pr w K mg base (gam K w C0) pn F ini where
  eK := rfl
  blt := fun x hx => PySem.W.mg_none_of X G (f.bl x hx)
  defs := fun x ff np nw e => by
    refine lookup_all (P := fun x v => DefOk K mg pn F x v.1 v.2.1 v.2.2) (l := dl) (x := x) (v := (ff, np, nw)) ?_ e
    unfold dl
    exact ac (defOk X G f.f67 rfl rfl (by decide) (by intro c z; cases z) s67 b67 rfl c67)
      <| ac (defOk X G f.f77 rfl rfl (by decide) (by intro c z; cases z) s77 b77 rfl c77)
      <| ac (defOk X G f.f23 rfl rfl (by decide) (by intro c z; cases z) s23 b23 rfl c23)
      <| ac (defOk X G f.f81 rfl rfl (by decide) (by intro c z; cases z) s81 b81 rfl c81)
      <| ac (defOk X G f.f18 rfl rfl (by decide) (by intro c z; cases z) s18 b18 rfl c18)
      <| ac (defOk X G f.f16 rfl rfl (by decide) (by intro c z; cases z) s16 b16 rfl c16)
      <| ac (defOk X G f.f95 rfl rfl (fun _ => rfl) (by intro c z; cases z) s95 b95 rfl c95)
      <| ac (defOk X G f.f1022 rfl rfl (by decide) (by intro c z; cases z) s1022 b1022 rfl c1022)
      <| ac (defOk X G f.f1151 rfl rfl (fun _ => rfl) (by intro c z; cases z) s1151 b1151 rfl c1151)
      <| ac (defOk X G f.f1102 rfl rfl (by decide) (by intro c z; cases z) s1102 b1102 rfl c1102)
      <| ac (defOk X G f.f1111 rfl rfl (by decide) (by intro c z; cases z) s1111 b1111 rfl c1111)
      <| ac (defOk X G f.f1096 rfl rfl (fun _ => rfl) (by intro c z; cases z) s1096 b1096 rfl c1096)
      <| ac (defOk X G f.f1068 rfl rfl (by decide) (by intro c z; cases z) s1068 b1068 rfl c1068)
      <| ac (defOk X G f.f1114 rfl rfl (fun _ => rfl) (by intro c z; cases z) s1114 b1114 rfl c1114)
      <| ac (defOk X G f.f1170 rfl rfl (by decide) (by intro c z; cases z) s1170 b1170 rfl c1170)
      <| an
  cls := fun x hx => by
    have : x = "Graph" := by simpa [pn, cl] using hx
    subst this
    exact ⟨C0, gam_c, PySem.W.mg_of X G f.aC, by decide +kernel⟩
  mks := fun x ff np e => by
    refine lookup_all (P := fun x v => ClsOk K mg (gam K w C0) pn F ini x v.1 v.2) (l := cl) (x := x) (v := (ff, np)) ?_ e
    unfold cl
    exact ac (clsOk X G f.aC f.g6 rfl rfl rfl (by unfold ini; exact if_pos rfl) gam_c s6 b6 rfl c6) an
  consts := fun x d e => by
    obtain ⟨t1, v1⟩ := f.v1
    obtain ⟨t2, v2⟩ := f.v2
    obtain ⟨t3, v3⟩ := f.v3
    obtain ⟨t4, v4⟩ := f.v4
    refine lookup_all (P := fun x d => ∃ v u, mg x = some u ∧ RelV v u ∧ ∀ Hm i, Rep (gam K w C0) Hm i v d) (l := ks) (x := x) (v := d) ?_ e
    unfold ks
    exact ac ⟨.str _, _, PySem.W.mg_of X G v1, ⟨_, rfl⟩, fun _ _ => .str _⟩ <| ac ⟨.int _, _, PySem.W.mg_of X G v2, ⟨_, rfl⟩, fun _ _ => .int _⟩ <| ac ⟨.int _, _, PySem.W.mg_of X G v3, ⟨_, rfl⟩, fun _ _ => .int _⟩ <| ac ⟨.int _, _, PySem.W.mg_of X G v4, ⟨_, rfl⟩, fun _ _ => .int _⟩ an
  gk := by
    obtain ⟨g1, g2, g3, g4, g5, g6, g7, g8, g9⟩ := f.gg
    have one : ∀ {c : Str} {C : Addr}, (gam K w C0).cA c = some C → c = "Graph" ∧ C = C0 := fun {c C} e => by
      have e : (if c = "Graph" then some C0 else none) = some C := e
      split at e
      · cases e; exact ⟨by assumption, rfl⟩
      · cases e
    refine ⟨fun c C e => ?_, fun c C e ff hf => ?_, fun c C e => ?_, fun c C e => ?_, fun c C c' C' e e' => ?_⟩
    · obtain ⟨rfl, rfl⟩ := one e; exact ⟨g1, g2, g3, g4⟩
    · obtain ⟨rfl, rfl⟩ := one e; exact g5 ff hf
    · obtain ⟨rfl, rfl⟩ := one e; exact ⟨g6, g7, g8, g9⟩
    · obtain ⟨rfl, rfl⟩ := one e; exact kits f.k0 f.k1
    · obtain ⟨rfl, rfl⟩ := one e
      obtain ⟨rfl, rfl⟩ := one e'
      unfold PySem.W.kitOne
      simp
  hset := fun n W => Mi.hset_all
theorem fin {Pr : Program} {w : World} {K : PySem.W.Frag} {h : Heap} (KX : K.In h) (fx : ∃ C0, Facts K C0) : DefFacts K "law" (top 25) ∧ ∃ Γ : Glo, Γ.K = K ∧ ∀ (base : Heap) (mg : Str → Option Value), K.In h → h.Ns mainGlobals mg → POk Pr w K mg base Γ pn F ini := by
  obtain ⟨C0, f⟩ := fx
  exact ⟨f.f1170, gam K w C0, rfl, fun base mg KX G => pok KX G f⟩
end P
open PySem PySem.W PyProof.Rows
set_option maxRecDepth 100000 in
set_option maxHeartbeats 0 in
theorem PySem.Challenge.cw_crossparity_k03_pairs_listed_holds : PySem.Challenge.rw_crossparity_k03_pairs_listed.Holds := by
  w_on; o_law; k_head; (case hw => w_witness2)
  k_fill
  refine Mi.walk_M (l := PySem.Challenge.rw_crossparity_k03_pairs_listed) (F := P.F) (ini := P.ini) (pn := P.pn) (W := 1000) (n := 11) (f := 1170) (d := P.d_law) (st := P.top 25) (lx := "law") (x0 := "_law_script") rfl rfl ⟨rfl, by decide, by decide⟩ rfl (fun w h Y => PySem.W.kIn_of Y) rfl rfl rfl P.s1170 rfl P.b1170 P.c1170 P.plain ?F
  case F =>
    intro w h KX
    refine P.fin KX ?_
    refine' ⟨?C0, ?f67, ?f77, ?f23, ?f81, ?f18, ?f16, ?f95, ?f1022, ?f1151, ?f1102, ?f1111, ?f1096, ?f1068, ?f1114, ?f1170, ?aC, ?g6, ?gg, ?k0, ?k1, ?bl, ?v1, ?v2, ?v3, ?v4⟩
    case aC => k_is
    case f67 => (refine' Mi.mkDef ?a ?l ?c ?k; (case a => k_is); (case l => k_is); (case c => k_is); (case k => k_is))
    case f77 => (refine' Mi.mkDef ?a ?l ?c ?k; (case a => k_is); (case l => k_is); (case c => k_is); (case k => k_is))
    case f23 => (refine' Mi.mkDef ?a ?l ?c ?k; (case a => k_is); (case l => k_is); (case c => k_is); (case k => k_is))
    case f81 => (refine' Mi.mkDef ?a ?l ?c ?k; (case a => k_is); (case l => k_is); (case c => k_is); (case k => k_is))
    case f18 => (refine' Mi.mkDef ?a ?l ?c ?k; (case a => k_is); (case l => k_is); (case c => k_is); (case k => k_is))
    case f16 => (refine' Mi.mkDef ?a ?l ?c ?k; (case a => k_is); (case l => k_is); (case c => k_is); (case k => k_is))
    case f95 => (refine' Mi.mkDef ?a ?l ?c ?k; (case a => k_is); (case l => k_is); (case c => k_is); (case k => k_is))
    case f1022 => (refine' Mi.mkDef ?a ?l ?c ?k; (case a => k_is); (case l => k_is); (case c => k_is); (case k => k_is))
    case f1151 => (refine' Mi.mkDef ?a ?l ?c ?k; (case a => k_is); (case l => k_is); (case c => k_is); (case k => k_is))
    case f1102 => (refine' Mi.mkDef ?a ?l ?c ?k; (case a => k_is); (case l => k_is); (case c => k_is); (case k => k_is))
    case f1111 => (refine' Mi.mkDef ?a ?l ?c ?k; (case a => k_is); (case l => k_is); (case c => k_is); (case k => k_is))
    case f1096 => (refine' Mi.mkDef ?a ?l ?c ?k; (case a => k_is); (case l => k_is); (case c => k_is); (case k => k_is))
    case f1068 => (refine' Mi.mkDef ?a ?l ?c ?k; (case a => k_is); (case l => k_is); (case c => k_is); (case k => k_is))
    case f1114 => (refine' Mi.mkDef ?a ?l ?c ?k; (case a => k_is); (case l => k_is); (case c => k_is); (case k => k_is))
    case f1170 => (refine' Mi.mkDef ?a ?l ?c ?k; (case a => k_is); (case l => k_is); (case c => k_is); (case k => k_is))
    case g6 => (refine' Mi.mkCls ?a ?b ?l ?c ?k ?m ?n; (case a => k_is); (case b => k_is); (case l => k_is); (case c => k_is); (case k => k_is); (case m => k_is); (case n => k_is))
    case gg => (refine' ⟨?a, ?b, ?c, ?d, ?e, ?f, ?g, ?h, ?i⟩; (case a => k_is); (case b => k_is); (case c => k_is); (case d => k_is); (case e => (refine' Mi.ac ?e1 (Mi.ac ?e2 Mi.an); (case e1 => k_is); (case e2 => k_is))); (case f => k_is); (case g => k_is); (case h => k_is); (case i => k_is))
    case k0 => (refine' Mi.mkClsK ?a ?b; (case a => k_is); (case b => k_is))
    case k1 => (refine' Mi.ac ⟨?a0, ?b0⟩ (Mi.ac ⟨?a1, ?b1⟩ (Mi.ac ⟨?a2, ?b2⟩ (Mi.ac ⟨?a3, ?b3⟩ (Mi.ac ⟨?a4, ?b4⟩ (Mi.ac ⟨?a5, ?b5⟩ (Mi.ac ⟨?a6, ?b6⟩ (Mi.an))))))); (case a0 => k_is); (case b0 => k_is); (case a1 => k_is); (case b1 => k_is); (case a2 => k_is); (case b2 => k_is); (case a3 => k_is); (case b3 => k_is); (case a4 => k_is); (case b4 => k_is); (case a5 => k_is); (case b5 => k_is); (case a6 => k_is); (case b6 => k_is))
    case bl => (unfold Mi.blts; refine' Mi.ac ?a0 (Mi.ac ?a1 (Mi.ac ?a2 (Mi.ac ?a3 (Mi.ac ?a4 (Mi.ac ?a5 (Mi.ac ?a6 (Mi.ac ?a7 (Mi.ac ?a8 (Mi.ac ?a9 (Mi.ac ?a10 (Mi.ac ?a11 (Mi.ac ?a12 (Mi.ac ?a13 (Mi.ac ?a14 (Mi.ac ?a15 (Mi.ac ?a16 (Mi.ac ?a17 (Mi.ac ?a18 (Mi.an))))))))))))))))))); (case a0 => k_is); (case a1 => k_is); (case a2 => k_is); (case a3 => k_is); (case a4 => k_is); (case a5 => k_is); (case a6 => k_is); (case a7 => k_is); (case a8 => k_is); (case a9 => k_is); (case a10 => k_is); (case a11 => k_is); (case a12 => k_is); (case a13 => k_is); (case a14 => k_is); (case a15 => k_is); (case a16 => k_is); (case a17 => k_is); (case a18 => k_is))
    case v1 => (refine' Mi.mkStr ?a; (case a => k_is))
    case v2 => (refine' Mi.mkInt ?a; (case a => k_is))
    case v3 => (refine' Mi.mkInt ?a; (case a => k_is))
    case v4 => (refine' Mi.mkInt ?a; (case a => k_is))
end
