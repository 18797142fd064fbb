import PyProof.Rows.All
import Wide.All
import OpenK.AllK
import Wide.FinOn
import HandS.Set
import HandS.SetTxt0
import HandS.SetFor
import HandS.Strs
import PyProof.WalksMore
import HandS.ForMost
import HandS.Style
import HandS.TupAny
import HandS.IsInst
import HandS.SetKeys
import KE.DataEq
import KE.SortData
import HandS.TupMul
import HandS.WideBits
import PyProof.StrBlock2
import HandS.TupLen
import HandS.More
import HandS.Conv
import KE.DataFind
import PyProof.SeqIndex
import HandS.Text
import PyProof.DictMoreH
import HandS.NoneIn
import HandS.EndBits
import PySem.Challenge.RW_talehands_k06_whole_rows_behind_one_anot
set_option Elab.async false
set_option linter.all false
set_option maxRecDepth 100000
/-! The clean evaluator: values without addresses (tuples by value, lists and dicts in a list of cells), statements as a total function into Option. -/
namespace TH

inductive CV where
  | non | bl (b : Bool) | int (i : Int) | str (s : List Nat) | tup (xs : List CV) | lst (xs : List CV) | ref (n : Nat)

mutual
def CV.beq : CV → CV → Bool
  | .non, .non => true
  | .bl a, .bl b => a == b
  | .int a, .int b => a == b
  | .str a, .str b => a == b
  | .tup a, .tup b => CV.beqs a b
  | .lst a, .lst b => CV.beqs a b
  | .ref a, .ref b => a == b
  | _, _ => false
def CV.beqs : List CV → List CV → Bool
  | [], [] => true
  | a :: as, b :: bs => CV.beq a b && CV.beqs as bs
  | _, _ => false
end
mutual
theorem CV.beq_iff : ∀ a b : CV, CV.beq a b = true ↔ a = b
  | .non, b => by cases b <;> simp [CV.beq]
  | .bl _, b => by cases b <;> simp [CV.beq]
  | .int _, b => by cases b <;> simp [CV.beq]
  | .str _, b => by cases b <;> simp [CV.beq]
  | .tup xs, b => by
    cases b with
    | tup ys => simp only [CV.beq, CV.tup.injEq]; exact CV.beqs_iff xs ys
    | _ => simp [CV.beq]
  | .lst xs, b => by
    cases b with
    | lst ys => simp only [CV.beq, CV.lst.injEq]; exact CV.beqs_iff xs ys
    | _ => simp [CV.beq]
  | .ref _, b => by cases b <;> simp [CV.beq]
theorem CV.beqs_iff : ∀ a b : List CV, CV.beqs a b = true ↔ a = b
  | [], b => by cases b <;> simp [CV.beqs]
  | a :: as, b => by
    cases b with
    | nil => simp [CV.beqs]
    | cons b bs => simp only [CV.beqs, Bool.and_eq_true, List.cons.injEq, CV.beq_iff a b, CV.beqs_iff as bs]
end
instance : DecidableEq CV := fun a b => if h : CV.beq a b = true then .isTrue ((CV.beq_iff a b).mp h) else .isFalse fun e => h ((CV.beq_iff a b).mpr e)

/-- cells -/
inductive CO where
  | lst (xs : List CV) | frz (xs : List CV) | dct (kvs : List (CV × CV)) | lkd (kvs : List (CV × CV)) | set (xs : List CV)
abbrev CH := List CO
abbrev Env := List (Option CV)
/-- most items of a list, signs of a text -/
def lim : Nat := 16777216

/-! ### data: lists read off the cells -/
mutual
def den (h : CH) : Nat → CV → Option CV
  | _, .non => some .non
  | _, .bl b => some (.bl b)
  | _, .int i => some (.int i)
  | _, .str s => some (.str s)
  | 0, .tup _ => none
  | 0, .ref _ => none
  | _, .lst _ => none
  | n + 1, .tup xs => (dens h n xs).map .tup
  | n + 1, .ref r => match h[r]? with
    | some (.lst xs) => (dens h n xs).map .lst
    | some (.frz xs) => (dens h n xs).map .lst
    | _ => none
def dens (h : CH) : Nat → List CV → Option (List CV)
  | _, [] => some []
  | n, x :: xs => (den h n x).bind fun y => (dens h n xs).bind fun ys => some (y :: ys)
end
/- == of data -/
mutual
def ceq : CV → CV → Bool
  | .non, .non => true
  | .bl a, .bl b => a == b
  | .bl a, .int j => (if a then 1 else 0) == j
  | .int i, .bl b => i == (if b then 1 else 0)
  | .int i, .int j => i == j
  | .str x, .str y => x == y
  | .lst xs, .lst ys => ceqs xs ys
  | .tup xs, .tup ys => ceqs xs ys
  | _, _ => false
def ceqs : List CV → List CV → Bool
  | [], [] => true
  | x :: xs, y :: ys => ceq x y && ceqs xs ys
  | _, _ => false
end
/-- < of texts by code points -/
def slt : List Nat → List Nat → Bool
  | [], [] => false
  | [], _ :: _ => true
  | _ :: _, [] => false
  | x :: xs, y :: ys => if x = y then slt xs ys else decide (x < y)
/- < of data that are alike -/
mutual
def clt : CV → CV → Bool
  | .bl a, .bl b => !a && b
  | .int i, .int j => decide (i < j)
  | .str x, .str y => slt x y
  | .tup xs, .tup ys => clts xs ys
  | .lst xs, .lst ys => clts xs ys
  | _, _ => false
def clts : List CV → List CV → Bool
  | [], [] => false
  | [], _ :: _ => true
  | _ :: _, [] => false
  | x :: xs, y :: ys => if ceq x y then clts xs ys else clt x y
end
/- the two can be compared, place by place -/
mutual
def clike : CV → CV → Bool
  | .non, .non => true
  | .bl _, .bl _ => true
  | .int _, .int _ => true
  | .str _, .str _ => true
  | .lst xs, .lst ys => clikes xs ys
  | .tup xs, .tup ys => clikes xs ys
  | _, _ => false
def clikes : List CV → List CV → Bool
  | x :: xs, y :: ys => clike x y && clikes xs ys
  | [], _ => true
  | _ :: _, [] => true
end
def cle (a b : CV) : Bool := !clt b a
/-- a list that sorted takes: all alike; tuples with an item, or no tuples and no None -/
def sortable (xs : List CV) : Bool :=
  (xs.all fun a => xs.all fun b => clike a b) && ((xs.all fun a => match a with | .tup (_ :: _) => true | _ => false) || (xs.all fun a => match a with | .tup _ => false | .non => false | _ => true))

/-! ### dicts -/
def leafK : CV → Bool
  | .int _ => true | .str _ => true | _ => false
def tupK : CV → Bool
  | .tup xs => xs.all leafK | _ => false
/-- keys of one kind -/
def keysOk (ks : List CV) : Bool := ks.all leafK || ks.all tupK
def dget (kvs : List (CV × CV)) (k : CV) : Option CV := (kvs.find? fun kv => decide (kv.1 = k)).map (·.2)
def dput (kvs : List (CV × CV)) (k v : CV) : List (CV × CV) :=
  if kvs.any (fun kv => decide (kv.1 = k)) then kvs.map fun kv => if kv.1 = k then (kv.1, v) else kv else kvs ++ [(k, v)]
def kok (kvs : List (CV × CV)) (k : CV) : Bool := keysOk (k :: kvs.map (·.1))

/-! ### operators -/
inductive BOp where | add | sub | mul | fdiv | mod | pow
inductive COp where | eq | ne | lt | le | gt | ge | isin | notin | is | isnot
inductive Ty where | int | str | bool | tup | lst | dct
inductive Bi where | len | all | any | tuple | list | set | sorted | int | abs | divmod | min1 | max1 | min2 | max2 | sum | isi (t : Ty) | dict1
inductive Me where | append | get | setdefault | pop | remove | index | count | extend | join | partition | split | upper

abbrev Out := Option (CV × CH)
def newc (h : CH) (o : CO) : Out := some (.ref h.length, h ++ [o])
def rdl (h : CH) (r : Nat) : Option (List CV) := match h[r]? with
  | some (.lst xs) => some xs
  | some (.frz xs) => some xs
  | _ => none
def b64 (i : Int) : Bool := decide (-(2 ^ 64) < i) && decide (i < 2 ^ 64)
def bitsOk (i j : Int) : Bool := decide (i.natAbs.log2 + j.natAbs.log2 + 2 ≤ 134217728)
def repS (s : List Nat) : Nat → List Nat
  | 0 => []
  | n + 1 => s ++ repS s n
def binV : BOp → CV → CV → CH → Out
  | .add, .int i, .int j, h => some (.int (i + j), h)
  | .add, .str a, .str b, h => if a.length + b.length ≤ lim then some (.str (a ++ b), h) else none
  | .add, .tup a, .tup b, h => if a.length + b.length ≤ lim then some (.tup (a ++ b), h) else none
  | .add, .ref a, .ref b, h => match h[a]?, h[b]? with
    | some (.lst xs), some (.lst ys) => if xs.length + ys.length ≤ lim then newc h (.lst (xs ++ ys)) else none
    | _, _ => none
  | .sub, .int i, .int j, h => some (.int (i - j), h)
  | .mul, .int i, .int j, h => if b64 i || b64 j || bitsOk i j then some (.int (i * j), h) else none
  | .mul, .str s, .int k, h => if k < 2 ^ 62 ∧ -(2 ^ 62) < k ∧ s.length * k.toNat ≤ lim then some (.str (repS s k.toNat), h) else none
  | .mul, .tup xs, .int k, h => if 2 ≤ k ∧ k ≤ 1000 ∧ xs ≠ [] ∧ xs.length ≤ 1000 then some (.tup (List.replicate k.toNat xs).flatten, h) else none
  | .mul, .ref r, .int k, h => match h[r]? with
    | some (.lst xs) => if -(2 ^ 62) < k ∧ k < 2 ^ 62 ∧ xs.length * k.toNat ≤ lim then newc h (.lst (List.replicate k.toNat xs).flatten) else none
    | _ => none
  | .fdiv, .int i, .int j, h => if 0 < j ∧ j < 1073741824 then some (.int (i / j), h) else none
  | .mod, .int i, .int j, h => if 0 < j then some (.int (i % j), h) else none
  | .pow, .int i, .int j, h => if 0 ≤ j ∧ j ≤ 1000000 ∧ i.natAbs < 2 ^ 64 then some (.int (i ^ j.toNat), h) else none
  | _, _, _, _ => none
def dep : Nat := 20
def eqV (h : CH) (a b : CV) : Option Bool := (den h dep a).bind fun x => (den h dep b).bind fun y => some (ceq x y)
/-- x in c -/
def inV (h : CH) (a b : CV) : Option Bool := match b with
  | .str t => match a with
    | .str [c] => some (decide (c ∈ t))
    | _ => none
  | .tup ys => (den h dep a).bind fun x => (dens h dep ys).bind fun zs => some (zs.any fun z => ceq z x)
  | .ref r => match h[r]? with
    | some (.lst ys) => (den h dep a).bind fun x => (dens h dep ys).bind fun zs => some (zs.any fun z => ceq z x)
    | some (.frz ys) => (den h dep a).bind fun x => (dens h dep ys).bind fun zs => some (zs.any fun z => ceq z x)
    | some (.dct kvs) => if kok kvs a then some (dget kvs a).isSome else none
    | some (.lkd kvs) => if kok kvs a && !kvs.isEmpty then some (dget kvs a).isSome else none
    | _ => none
  | _ => none
def cmpV : COp → CV → CV → CH → Option Bool
  | .eq, a, b, h => eqV h a b
  | .ne, a, b, h => (eqV h a b).map (!·)
  | .lt, .int i, .int j, _ => some (decide (i < j))
  | .le, .int i, .int j, _ => some (decide (i ≤ j))
  | .gt, .int i, .int j, _ => some (decide (j < i))
  | .ge, .int i, .int j, _ => some (decide (j ≤ i))
  | .isin, a, b, h => inV h a b
  | .notin, a, b, h => (inV h a b).map (!·)
  | .is, a, .non, _ => some (decide (a = .non))
  | .isnot, a, .non, _ => some (decide (a ≠ .non))
  | .is, .bl a, .bl b, _ => some (a == b)
  | .isnot, .bl a, .bl b, _ => some (a != b)
  | _, _, _, _ => none
/-- the place of an index -/
def ixN (n : Nat) (i : Int) : Option Nat := if 0 ≤ i then (if i < n then some i.toNat else none) else if -(n : Int) ≤ i then some (i + n).toNat else none
def atI {α : Type} (xs : List α) (i : Int) : Option α := (ixN xs.length i).bind fun j => xs[j]?
def ixV (a i : CV) (h : CH) : Option CV := match i with
  | .int k => match a with
    | .tup xs => atI xs k
    | .lst xs => atI xs k
    | .str s => if s.length ≤ lim then (atI s k).map fun c => .str [c] else none
    | .ref r => match h[r]? with
      | some (.lst xs) => atI xs k
      | some (.frz xs) => atI xs k
      | some (.dct kvs) => if kok kvs i then dget kvs i else none
      | some (.lkd kvs) => if kok kvs i && !kvs.isEmpty then dget kvs i else none
      | _ => none
    | _ => none
  | _ => match a with
    | .ref r => match h[r]? with
      | some (.dct kvs) => if kok kvs i then dget kvs i else none
      | some (.lkd kvs) => if kok kvs i && !kvs.isEmpty then dget kvs i else none
      | _ => none
    | _ => none
/-- a slice's ends -/
def sIx (n d : Nat) : Option Int → Nat
  | none => d
  | some i => if 0 ≤ i then min i.toNat n else (i + n).toNat
def cut {α : Type} (xs : List α) (lo hi : Option Int) : List α := (xs.drop (sIx xs.length 0 lo)).take (sIx xs.length xs.length hi - sIx xs.length 0 lo)
def slV (a : CV) (lo hi : Option Int) (h : CH) : Out := match a with
  | .tup xs => some (.tup (cut xs lo hi), h)
  | .lst xs => newc h (.lst (cut xs lo hi))
  | .str s => if s.length ≤ lim then some (.str (cut s lo hi), h) else none
  | .ref r => match rdl h r with
    | some xs => newc h (.lst (cut xs lo hi))
    | none => none
  | _ => none
def revV (a : CV) (h : CH) : Out := match a with
  | .ref r => match rdl h r with
    | some xs => newc h (.lst xs.reverse)
    | none => none
  | _ => none
def setV (a i v : CV) (h : CH) : Option CH := match a with
  | .ref r => match h[r]? with
    | some (.lst xs) => match i with
      | .int k => (ixN xs.length k).map fun j => h.set r (.lst (xs.set j v))
      | _ => none
    | some (.dct kvs) => if kok kvs i && decide (kvs.length < lim) then some (h.set r (.dct (dput kvs i v))) else none
    | _ => none
  | _ => none

/-! ### built-ins -/
def ints? : List CV → Option (List Int)
  | [] => some []
  | .int i :: r => (ints? r).map (i :: ·)
  | _ => none
def bools? : List CV → Option (List Bool)
  | [] => some []
  | .bl b :: r => (bools? r).map (b :: ·)
  | _ => none
def strs? : List CV → Option (List (List Nat))
  | [] => some []
  | .str s :: r => (strs? r).map (s :: ·)
  | _ => none
/-- the items of a list, a tuple -/
def items (h : CH) : CV → Option (List CV)
  | .tup xs => some xs
  | .ref r => rdl h r
  | _ => none
def isiV (t : Ty) (a : CV) (h : CH) : Option Bool := match t, a with
  | .int, .int _ => some true
  | .int, .bl _ => some true
  | .bool, .bl _ => some true
  | .str, .str _ => some true
  | .tup, .tup _ => some true
  | .lst, .ref r => match h[r]? with
    | some (.lst _) => some true
    | some (.frz _) => some true
    | some (.dct _) => some false
    | _ => none
  | .dct, .ref r => match h[r]? with
    | some (.lst _) => some false
    | some (.frz _) => some false
    | some (.dct _) => some true
    | _ => none
  | _, .ref r => match h[r]? with
    | some (.lst _) => some false
    | some (.frz _) => some false
    | some (.dct _) => some false
    | _ => none
  | _, .lst _ => none
  | _, _ => some false
/-- each once, by its first place -/
def nub : List CV → List CV
  | [] => []
  | x :: xs => x :: (nub xs).filter fun y => decide (y ≠ x)
/-- a key of a set -/
def hashable : CV → Bool
  | .int _ => true | .str _ => true | _ => false
/-- what sorted takes -/
def iterable (h : CH) : CV → Option (List CV)
  | .tup xs => some xs
  | .ref r => match h[r]? with
    | some (.lst xs) => some xs
    | some (.frz xs) => some xs
    | some (.dct kvs) => some (kvs.map (·.1))
    | some (.set xs) => some xs
    | _ => none
  | _ => none
def isTx : CV → Bool
  | .str _ => true
  | _ => false
def insC (ks : List CV) (k : CV) : List CV := if k ∈ ks then ks else k :: ks
def insAllC (ks : List CV) : List CV → List CV
  | [] => ks
  | k :: r => insAllC (insC ks k) r
def minL : List CV → Option CV
  | [] => none
  | x :: xs => some (xs.foldl (fun m y => if clt y m then y else m) x)
def pairs? : List CV → Option (List (CV × CV))
  | [] => some []
  | .tup [k, v] :: r => (pairs? r).map ((k, v) :: ·)
  | _ => none
def biV : Bi → List CV → CH → Out
  | .len, [a], h => match a with
    | .str s => if s.length ≤ lim then some (.int s.length, h) else none
    | .tup xs => some (.int xs.length, h)
    | .lst xs => some (.int xs.length, h)
    | .ref r => match h[r]? with
      | some (.lst xs) => some (.int xs.length, h)
      | some (.frz xs) => some (.int xs.length, h)
      | some (.dct kvs) => some (.int kvs.length, h)
      | some (.set xs) => some (.int xs.length, h)
      | _ => none
    | _ => none
  | .all, [.ref r], h => ((rdl h r).bind bools?).map fun bs => (.bl (bs.all id), h)
  | .any, [.ref r], h => ((rdl h r).bind bools?).map fun bs => (.bl (bs.any id), h)
  | .tuple, [a], h => (items h a).map fun xs => (.tup xs, h)
  | .list, [a], h => (items h a).bind fun xs => newc h (.lst xs)
  | .int, [.int i], h => some (.int i, h)
  | .int, [.bl b], h => some (.int (if b then 1 else 0), h)
  | .abs, [.int i], h => some (.int (if i < 0 then -i else i), h)
  | .divmod, [.int i, .int j], h => if 0 < j ∧ j < 1073741824 then some (.tup [.int (i / j), .int (i % j)], h) else none
  | .min2, [.int i, .int j], h => some (.int (if j < i then j else i), h)
  | .max2, [.int i, .int j], h => some (.int (if j > i then j else i), h)
  | .sum, [.ref r], h => ((rdl h r).bind ints?).map fun ns => (.int ns.sum, h)
  | .isi t, [a], h => (isiV t a h).map fun b => (.bl b, h)
  | .sorted, [a], h => (iterable h a).bind fun xs => (dens h dep xs).bind fun ds => if ds = xs ∧ sortable xs = true then newc h (.lst (xs.mergeSort cle)) else none
  | .set, [a], h => (items h a).bind fun xs => if xs.all isTx = true ∧ xs.length ≤ 4000 then newc h (.set (insAllC [] xs)) else none
  | .dict1, [.ref r], h => (rdl h r).bind fun xs => (pairs? xs).bind fun ps => if ps.all (fun p => leafK p.1) = true then newc h (.dct (ps.foldl (fun acc kv => dput acc kv.1 kv.2) [])) else none
  | _, _, _ => none
/-- where a text stands in another, parted once -/
def isPre (p l : List Nat) : Bool := l.take p.length == p
def partS (S : List Nat) : List Nat → List Nat → Option (List Nat × List Nat)
  | acc, [] => if isPre S [] then some (acc, []) else none
  | acc, c :: l => if isPre S (c :: l) then some (acc, (c :: l).drop S.length) else partS S (acc ++ [c]) l
/-- a text parted at one sign -/
def splitC (c : Nat) : List Nat → List (List Nat)
  | [] => [[]]
  | d :: l => if d = c then [] :: splitC c l else match splitC c l with
    | [] => [[d]]
    | w :: ws => (d :: w) :: ws
def joinS (S : List Nat) : List (List Nat) → List Nat
  | [] => []
  | [x] => x
  | x :: y :: r => x ++ S ++ joinS S (y :: r)
def upC (c : Nat) : Nat := if 97 ≤ c ∧ c ≤ 122 then c - 32 else c
def eqFst (h : CH) (a : CV) (xs : List CV) : Option (Option Nat) := (den h dep a).bind fun x => (dens h dep xs).bind fun zs => some (zs.findIdx? fun z => ceq z x)
def meV : Me → CV → List CV → CH → Out
  | .append, .ref r, [v], h => match h[r]? with
    | some (.lst xs) => if xs.length < lim then some (.non, h.set r (.lst (xs ++ [v]))) else none
    | _ => none
  | .extend, .ref r, [.ref q], h => match h[r]?, h[q]? with
    | some (.lst xs), some (.lst ys) => if xs.length + ys.length ≤ lim then some (.non, h.set r (.lst (xs ++ ys))) else none
    | _, _ => none
  | .pop, .ref r, [.int i], h => match h[r]? with
    | some (.lst xs) => (ixN xs.length i).bind fun j => xs[j]?.map fun y => (y, h.set r (.lst (xs.eraseIdx j)))
    | _ => none
  | .remove, .ref r, [v], h => match h[r]? with
    | some (.lst xs) => (eqFst h v xs).bind fun o => o.map fun j => (.non, h.set r (.lst (xs.eraseIdx j)))
    | _ => none
  | .index, a, [v], h => (items h a).bind fun xs => (eqFst h v xs).bind fun o => o.map fun (j : Nat) => (CV.int (j : Int), h)
  | .count, a, [v], h => (items h a).bind fun xs => (den h dep v).bind fun x => (dens h dep xs).map fun zs => (.int (zs.countP fun z => ceq z x), h)
  | .get, .ref r, [k, d], h => match h[r]? with
    | some (.dct kvs) => if kok kvs k then some ((dget kvs k).getD d, h) else none
    | some (.lkd kvs) => if kok kvs k && !kvs.isEmpty then some ((dget kvs k).getD d, h) else none
    | _ => none
  | .setdefault, .ref r, [k, d], h => match h[r]? with
    | some (.dct kvs) => if kok kvs k && decide (kvs.length < lim) then match dget kvs k with
      | some v => some (v, h)
      | none => some (d, h.set r (.dct (dput kvs k d))) else none
    | _ => none
  | .join, .str s, [a], h => ((items h a).bind strs?).bind fun ys => if (joinS s ys).length + s.length ≤ lim then some (.str (joinS s ys), h) else none
  | .partition, .str s, [.str [c]], h => if s.length ≤ lim then match partS [c] [] s with
      | some (a, b) => some (.tup [.str a, .str [c], .str b], h)
      | none => some (.tup [.str s, .str [], .str []], h) else none
  | .split, .str s, [.str [c]], h => if s.length + 2 ≤ lim ∧ c < 256 then newc h (.lst ((splitC c s).map .str)) else none
  | .upper, .str s, [], h => if s.length ≤ 1000 ∧ s.all (fun c => decide (c < 128)) = true then some (.str (s.map upC), h) else none
  | _, _, _, _ => none

/-- the receiver is of the method's type -/
def recvOk (m : Me) (o : CV) (h : CH) : Bool := match m, o with
  | .append, .ref r => match h[r]? with | some (.lst _) => true | _ => false
  | .extend, .ref r => match h[r]? with | some (.lst _) => true | _ => false
  | .pop, .ref r => match h[r]? with | some (.lst _) => true | _ => false
  | .remove, .ref r => match h[r]? with | some (.lst _) => true | _ => false
  | .index, .ref r => match h[r]? with | some (.lst _) => true | some (.frz _) => true | _ => false
  | .count, .ref r => match h[r]? with | some (.lst _) => true | some (.frz _) => true | _ => false
  | .get, .ref r => match h[r]? with | some (.dct _) => true | some (.lkd _) => true | _ => false
  | .setdefault, .ref r => match h[r]? with | some (.dct _) => true | _ => false
  | .join, .str _ => true
  | .partition, .str _ => true
  | .split, .str _ => true
  | .upper, .str _ => true
  | _, _ => false

/-! ### what a loop walks -/
inductive Src where
  | ints (lo : Int) (n : Nat) | tup (xs : List CV) | cell (r : Nat) | str (s : List Nat) | keys (r : Nat) | vals (r : Nat)
def Src.len (h : CH) : Src → Nat
  | .ints _ n => n
  | .tup xs => xs.length
  | .cell r => ((rdl h r).getD []).length
  | .str s => s.length
  | .keys r => match h[r]? with | some (.lkd kvs) => kvs.length | _ => 0
  | .vals r => match h[r]? with | some (.lkd kvs) => kvs.length | _ => 0
/-- the item at a turn: none: stuck; some none: the end -/
def Src.item (h : CH) (i : Nat) : Src → Option (Option CV)
  | .ints lo n => some (if i < n then some (.int (lo + i)) else none)
  | .tup xs => some xs[i]?
  | .cell r => (rdl h r).map fun xs => xs[i]?
  | .str s => some (s[i]?.map fun c => .str [c])
  | .keys r => match h[r]? with | some (.lkd kvs) => some (kvs[i]?.map (·.1)) | _ => none
  | .vals r => match h[r]? with | some (.lkd kvs) => some (kvs[i]?.map (·.2)) | _ => none
def lockC (h : CH) (r : Nat) : Option CH := match h[r]? with
  | some (.dct kvs) => some (h.set r (.lkd kvs))
  | _ => none
def unlockC (h : CH) (r : Nat) : Option CH := match h[r]? with
  | some (.lkd kvs) => some (h.set r (.dct kvs))
  | _ => none
/-- a dict whose first key is no tuple -/
def hLeaf (h : CH) (r : Nat) : Bool := match h[r]? with
  | some (.dct (kv :: _)) => leafK kv.1
  | _ => false
/-- the turns of a loop: body is asked at each item -/
def loopGo {S : Type} (src : Src) (body : CV → S → CH → Option (S × CH)) : Nat → Nat → S → CH → Option (S × CH)
  | 0, i, s, h => match src.item h i with
    | some none => some (s, h)
    | _ => none
  | n + 1, i, s, h => match src.item h i with
    | some (some x) => (body x s h).bind fun p => loopGo src body n (i + 1) p.1 p.2
    | _ => none

/-! ### expressions -/
mutual
inductive CE where
  | var (i : Nat) | lit (v : CV) | glob (x : String) (v : CV)
  | bin (o : BOp) (a b : CE) | cmp (o : COp) (a b : CE) | cmp2 (o p : COp) (a b c : CE) | cmp3 (o p q : COp) (a b c d : CE)
  | and (a b : CE) | or (a b : CE) | not (a : CE) | neg (a : CE) | ite (c a b : CE)
  | tup (es : CEs) | lst (es : CEs) | dct0
  | ix (a i : CE) | sl (a : CE) (lo hi : CO1) | rev (a : CE)
  | call (f : Nat) (es : CEs) | bi (f : Bi) (es : CEs) | me (m : Me) (o : CE) (es : CEs)
  | comp (elt : CE) (i : Nat) (it : CI) (cond : CE) | compD (elt : CE) (i : Nat) (vl : Bool) (d : Nat) (cond : CE)
inductive CEs where | nil | cons (e : CE) (es : CEs)
inductive CO1 where | no | ex (e : CE)
inductive CI where | range1 (a : CE) | range2 (a b : CE) | val (e : CE)
end

/-- the functions of the text, by their number -/
abbrev Fns := Nat → List CV → CH → Out

section
variable (F : Fns)
/-- what a value that is walked is -/
def srcOf (h : CH) : CV → Option (Src × CH)
  | .tup xs => some (.tup xs, h)
  | .str s => some (.str s, h)
  | .ref r => match h[r]? with
    | some (.lst _) => some (.cell r, h)
    | some (.frz _) => some (.cell r, h)
    | _ => none
  | _ => none
def small62 (i : Int) : Bool := decide (-(2 ^ 62) ≤ i) && decide (i < 2 ^ 62)
mutual
def evalC : CE → Env → CH → Out
  | .var i, s, h => match s[i]? with
    | some (some v) => some (v, h)
    | _ => none
  | .lit v, _, h => some (v, h)
  | .glob _ v, _, h => some (v, h)
  | .bin o a b, s, h => (evalC a s h).bind fun p => (evalC b s p.2).bind fun q => binV o p.1 q.1 q.2
  | .cmp o a b, s, h => (evalC a s h).bind fun p => (evalC b s p.2).bind fun q => (cmpV o p.1 q.1 q.2).map fun r => (.bl r, q.2)
  | .cmp2 o o2 a b c, s, h => (evalC a s h).bind fun p => (evalC b s p.2).bind fun q => (cmpV o p.1 q.1 q.2).bind fun r =>
      if r = true then (evalC c s q.2).bind fun u => (cmpV o2 q.1 u.1 u.2).map fun r2 => (.bl r2, u.2) else some (.bl false, q.2)
  | .cmp3 o o2 o3 a b c d, s, h => (evalC a s h).bind fun p => (evalC b s p.2).bind fun q => (cmpV o p.1 q.1 q.2).bind fun r =>
      if r = true then (evalC c s q.2).bind fun u => (cmpV o2 q.1 u.1 u.2).bind fun r2 =>
        if r2 = true then (evalC d s u.2).bind fun w => (cmpV o3 u.1 w.1 w.2).map fun r3 => (.bl r3, w.2) else some (.bl false, u.2)
      else some (.bl false, q.2)
  | .and a b, s, h => (testC a s h).bind fun p => if p.1 = true then (testC b s p.2).map fun q => (.bl q.1, q.2) else some (.bl false, p.2)
  | .or a b, s, h => (testC a s h).bind fun p => if p.1 = true then some (.bl true, p.2) else (testC b s p.2).map fun q => (.bl q.1, q.2)
  | .not a, s, h => (testC a s h).map fun p => (.bl (!p.1), p.2)
  | .neg a, s, h => (evalC a s h).bind fun p => match p.1 with
    | .int i => some (.int (-i), p.2)
    | _ => none
  | .ite c a b, s, h => (testC c s h).bind fun p => if p.1 = true then evalC a s p.2 else evalC b s p.2
  | .tup es, s, h => (evalCs es s h).map fun p => (.tup p.1, p.2)
  | .lst es, s, h => (evalCs es s h).bind fun p => newc p.2 (.lst p.1)
  | .dct0, _, h => newc h (.dct [])
  | .ix a i, s, h => (evalC a s h).bind fun p => (evalC i s p.2).bind fun q => (ixV p.1 q.1 q.2).map fun v => (v, q.2)
  | .sl a lo hi, s, h => (evalC a s h).bind fun p => (evalO lo s p.2).bind fun q => (evalO hi s q.2).bind fun r => slV p.1 q.1 r.1 r.2
  | .rev a, s, h => (evalC a s h).bind fun p => revV p.1 p.2
  | .call f es, s, h => (evalCs es s h).bind fun p => F f p.1 p.2
  | .bi f es, s, h => (evalCs es s h).bind fun p => biV f p.1 p.2
  | .me m o es, s, h => (evalC o s h).bind fun p => if recvOk m p.1 p.2 = true then (evalCs es s p.2).bind fun q => meV m p.1 q.1 q.2 else none
  | .comp elt i it cond, s, h => (evalI it s h).bind fun p => if p.1.len p.2 ≤ lim then
      (loopGo p.1 (fun x acc h => (testC cond (s.set i (some x)) h).bind fun b => if b.1 = true then (evalC elt (s.set i (some x)) b.2).map fun y => (acc ++ [y.1], y.2) else some (acc, b.2)) (p.1.len p.2) 0 ([] : List CV) p.2).bind fun q => newc q.2 (.lst q.1)
      else none
  | .compD elt i vl d cond, s, h => match s[d]? with
    | some (some (.ref r)) => if (vl && !hLeaf h r) = true then none else (lockC h r).bind fun h1 =>
        (loopGo (if vl = true then .vals r else .keys r) (fun x acc h => (testC cond (s.set i (some x)) h).bind fun b => if b.1 = true then (evalC elt (s.set i (some x)) b.2).map fun y => (acc ++ [y.1], y.2) else some (acc, b.2)) ((Src.keys r).len h1) 0 ([] : List CV) h1).bind fun q => (unlockC q.2 r).bind fun h2 => newc h2 (.lst q.1)
    | _ => none
def evalCs : CEs → Env → CH → Option (List CV × CH)
  | .nil, _, h => some ([], h)
  | .cons e es, s, h => (evalC e s h).bind fun p => (evalCs es s p.2).map fun q => (p.1 :: q.1, q.2)
def evalO : CO1 → Env → CH → Option (Option Int × CH)
  | .no, _, h => some (none, h)
  | .ex e, s, h => (evalC e s h).bind fun p => match p.1 with
    | .int i => some (some i, p.2)
    | _ => none
def evalI : CI → Env → CH → Option (Src × CH)
  | .range1 a, s, h => (evalC a s h).bind fun p => match p.1 with
    | .int j => if small62 j then some (.ints 0 j.toNat, p.2) else none
    | _ => none
  | .range2 a b, s, h => (evalC a s h).bind fun p => (evalC b s p.2).bind fun q => match p.1, q.1 with
    | .int i, .int j => if small62 i && small62 j then some (.ints i (j - i).toNat, q.2) else none
    | _, _ => none
  | .val e, s, h => (evalC e s h).bind fun p => srcOf p.2 p.1
/-- as a test: True or False -/
def testC : CE → Env → CH → Option (Bool × CH)
  | .and a b, s, h => (testC a s h).bind fun p => if p.1 = true then testC b s p.2 else some (false, p.2)
  | .or a b, s, h => (testC a s h).bind fun p => if p.1 = true then some (true, p.2) else testC b s p.2
  | .not a, s, h => (testC a s h).map fun p => (!p.1, p.2)
  | .lit (.bl b), _, h => some (b, h)
  | .var i, s, h => match s[i]? with
    | some (some (.bl b)) => some (b, h)
    | _ => none
  | .cmp o a b, s, h => (evalC a s h).bind fun p => (evalC b s p.2).bind fun q => (cmpV o p.1 q.1 q.2).map fun r => (r, q.2)
  | .cmp2 o o2 a b c, s, h => (evalC a s h).bind fun p => (evalC b s p.2).bind fun q => (cmpV o p.1 q.1 q.2).bind fun r =>
      if r = true then (evalC c s q.2).bind fun u => (cmpV o2 q.1 u.1 u.2).map fun r2 => (r2, u.2) else some (false, q.2)
  | .cmp3 o o2 o3 a b c d, s, h => (evalC a s h).bind fun p => (evalC b s p.2).bind fun q => (cmpV o p.1 q.1 q.2).bind fun r =>
      if r = true then (evalC c s q.2).bind fun u => (cmpV o2 q.1 u.1 u.2).bind fun r2 =>
        if r2 = true then (evalC d s u.2).bind fun w => (cmpV o3 u.1 w.1 w.2).map fun r3 => (r3, w.2) else some (false, u.2)
      else some (false, q.2)
  | .call f es, s, h => (evalCs es s h).bind fun p => (F f p.1 p.2).bind fun q => match q.1 with
    | .bl b => some (b, q.2)
    | _ => none
  | .bi f es, s, h => (evalCs es s h).bind fun p => (biV f p.1 p.2).bind fun q => match q.1 with
    | .bl b => some (b, q.2)
    | _ => none
  | _, _, _ => none
end

/-! ### statements -/
inductive CT where | nm (i : Nat) | tup (is : List Nat) | sub (o i : CE) | subnm (o i : CE) (n : Nat) | subsub (o i o2 i2 : CE)
mutual
inductive CS where
  | asg (t : CT) (e : CE) | par (i j : Nat) (a b : CE) | expr (e : CE) | ret (e : CE) | retn | iff (c : CE) (a b : CSs) | fo (t : CT) (it : CI) (b : CSs) | wh (c : CE) (b : CSs) | pas | bad
inductive CSs where | nil | cons (s : CS) (ss : CSs)
end
inductive Fl where | nx | rt (v : CV)
def setN (s : Env) : List Nat → List CV → Option Env
  | [], [] => some s
  | i :: is, x :: xs => setN (s.set i (some x)) is xs
  | _, _ => none
def asgC (t : CT) (x : CV) (s : Env) (h : CH) : Option (Env × CH) := match t with
  | .nm i => some (s.set i (some x), h)
  | .tup is => match x with
    | .tup xs => (setN s is xs).map fun s' => (s', h)
    | .ref r => (rdl h r).bind fun xs => (setN s is xs).map fun s' => (s', h)
    | _ => none
  | .sub o i => (evalC F o s h).bind fun p => (evalC F i s p.2).bind fun q => (setV p.1 q.1 x q.2).map fun h' => (s, h')
  | .subnm o i n => match x with
    | .tup [y, z] => (evalC F o s h).bind fun p => (evalC F i s p.2).bind fun q => (setV p.1 q.1 y q.2).map fun h' => (s.set n (some z), h')
    | _ => none
  | .subsub o i o2 i2 => match x with
    | .tup [y, z] => (evalC F o s h).bind fun p => (evalC F i s p.2).bind fun q => (setV p.1 q.1 y q.2).bind fun h' =>
        (evalC F o2 s h').bind fun p => (evalC F i2 s p.2).bind fun q => (setV p.1 q.1 z q.2).map fun h' => (s, h')
    | _ => none
/-- the turns of a for -/
def forGo (src : Src) (body : CV → Env → CH → Option (Fl × Env × CH)) : Nat → Nat → Env → CH → Option (Fl × Env × CH)
  | 0, i, s, h => match src.item h i with
    | some none => some (.nx, s, h)
    | _ => none
  | n + 1, i, s, h => match src.item h i with
    | some (some x) => match body x s h with
      | some (.nx, s', h') => forGo src body n (i + 1) s' h'
      | r => r
    | _ => none
def whGo (test : Env → CH → Option (Bool × CH)) (body : Env → CH → Option (Fl × Env × CH)) : Nat → Env → CH → Option (Fl × Env × CH)
  | 0, _, _ => none
  | n + 1, s, h => match test s h with
    | some (true, h1) => match body s h1 with
      | some (.nx, s', h') => whGo test body n s' h'
      | r => r
    | some (false, h1) => some (.nx, s, h1)
    | none => none
variable (W : Nat)
mutual
def execC : CS → Env → CH → Option (Fl × Env × CH)
  | .asg t e, s, h => (evalC F e s h).bind fun p => (asgC F t p.1 s p.2).map fun q => (.nx, q.1, q.2)
  | .par i j a b, s, h => (evalC F a s h).bind fun p => (evalC F b s p.2).map fun q => (.nx, (s.set i (some p.1)).set j (some q.1), q.2)
  | .expr e, s, h => (evalC F e s h).map fun p => (.nx, s, p.2)
  | .ret e, s, h => (evalC F e s h).map fun p => (.rt p.1, s, p.2)
  | .retn, s, h => some (.rt .non, s, h)
  | .iff c a b, s, h => (testC F c s h).bind fun p => if p.1 = true then execCs a s p.2 else execCs b s p.2
  | .fo t it b, s, h => (evalI F it s h).bind fun p => forGo p.1 (fun x s h => (asgC F t x s h).bind fun q => execCs b q.1 q.2) (p.1.len p.2) 0 s p.2
  | .wh c b, s, h => whGo (testC F c) (execCs b) W s h
  | .pas, s, h => some (.nx, s, h)
  | .bad, _, _ => none
def execCs : CSs → Env → CH → Option (Fl × Env × CH)
  | .nil, s, h => some (.nx, s, h)
  | .cons a b, s, h => match execC a s h with
    | some (.nx, s', h') => execCs b s' h'
    | r => r
end
/-- a def called: n slots -/
def runC (n : Nat) (b : CSs) (args : List CV) (h : CH) : Out := match execCs F W b (args.map some ++ List.replicate (n - args.length) none) h with
  | some (.nx, _, h') => some (.non, h')
  | some (.rt v, _, h') => some (v, h')
  | none => none
end
end TH

set_option maxHeartbeats 4000000
/-! Sets of texts. -/
namespace TH
open PySem PySem.Spec PyProof.Rows L2
section
/-- the set of the texts ks at a -/
def TxR (P : Program) (w : World) (h : Heap) (a : Addr) (ks : List Str) : Prop := ∃ D : PySem.Froz.SD, h.get? a = some (PySem.Froz.sObj "set" D) ∧ PySem.Froz.TxOk P w D ks ∧ ks.Nodup ∧ Ris D.2.2.place.toList ∧ (w.params.followText "set-order" = true ∨ D.2.2.led = true) ∧ ks.length < scanBound
theorem TxR.at {P : Program} {w : World} {h h' : Heap} {a : Addr} {ks : List Str} (R : TxR P w h a ks) (k : ∀ o, h.get? a = some o → h'.get? a = some o) : TxR P w h' a ks := by
  obtain ⟨D, ho, r⟩ := R
  exact ⟨D, k _ ho, r⟩
def insT (ks : List Str) (k : Str) : List Str := if k ∈ ks then ks else k :: ks
variable {P : Program} {w : World} {A : Around} {E : Value → Shared → Prop} {s : Shared}
theorem tail_ris {ep : Nat} {es1 : Array (Int × Value)} {t2 : SetTable} {wd : Bool} (r : Ris t2.place.toList) : Ris (PySem.Froz.tailTx ep es1 t2 wd).2.2.place.toList := by
  unfold PySem.Froz.tailTx
  by_cases c : (!wd && t2.tooFull) = true
  · rw [if_pos c]; exact relayAll_ris _ _ _
  · rw [if_neg c]; exact r
theorem tail_led {ep : Nat} {es1 : Array (Int × Value)} {t2 : SetTable} {wd : Bool} : (PySem.Froz.tailTx ep es1 t2 wd).2.2.led = t2.led := by
  unfold PySem.Froz.tailTx
  by_cases c : (!wd && t2.tooFull) = true
  · rw [if_pos c]; exact relayAll_led _ _ _
  · rw [if_neg c]
theorem addTx_ris {h : Int} {v : Value} {D : PySem.Froz.SD} (r : Ris D.2.2.place.toList) : Ris (PySem.Froz.addTx h v D).2.2.place.toList := by
  have r1 := layNew_ris D.2.2 D.1 h v r
  unfold PySem.Froz.addTx
  refine tail_ris ?_
  by_cases c : (layNew D.2.2 D.1 h v).2.1.plain = true
  · rw [if_pos c]; exact r1
  · rw [if_neg c]; exact r1
theorem addTx_led {h : Int} {v : Value} {D : PySem.Froz.SD} : (PySem.Froz.addTx h v D).2.2.led = D.2.2.led := by
  have l1 := layNew_led D.2.2 D.1 h v
  unfold PySem.Froz.addTx
  rw [tail_led]
  by_cases c : (layNew D.2.2 D.1 h v).2.1.plain = true
  · rw [if_pos c]; exact l1
  · rw [if_neg c]; exact l1
theorem ins_tx {a : Addr} {ks : List Str} {k : Str} {u : Tok} {Q : Bool → Shared → Prop} (R : TxR P w s.heap a ks) (hb : ks.length + 1 < scanBound)
    (hQ : ∀ h' b, Heap.SameBut a s.heap h' → TxR P w h' a (insT ks k) → Q b { s with heap := h' }) : wpAny (model P w) A (setAddHashed a (.str k u) (hashStr w k)) Q E s := by
  obtain ⟨D, ho, F, nd, hr, hl, hz⟩ := R
  by_cases hk : k ∈ ks
  · obtain ⟨es, ep, t⟩ := D
    have hf : t.fits es.size = true := F.fit
    have hel : ElemsOf (strKind P w) es.toList := F.el
    have hsz : es.size = ks.length := F.sz
    obtain ⟨e0, he0, q0⟩ := (F.mem k).mp hk
    unfold setAddHashed setAddHashedIn
    refine wpAny_holding (wpAny_bind (wpAny_setState_of ho rfl hf ?_))
    dsimp only
    rw [byScan_of (knd := strKind P w) rfl (by omega) hel]
    simp only [↓reduceIte]
    unfold setAddByScan
    refine wpAny_bind (wpAny_bind (wpAny_rule (wpAny_bind (wpAny_setScan_of (knd := strKind P w) (k := k) (PySem.Froz.is_str k u) ho rfl hf hel ?_))))
    cases hfi : List.findIdx? (fun e => (strKind P w).is k e.2) es.toList with
    | none =>
      have c := List.findIdx?_eq_none_iff.mp hfi e0 he0
      rw [q0] at c
      cases c
    | some j =>
      dsimp only
      have z : insT ks k = ks := if_pos hk
      exact wpAny_pure (wpAny_pure (hQ s.heap false (Heap.SameBut.refl a s.heap) (by rw [z]; exact ⟨_, ho, F, nd, hr, hl, hz⟩)))
  · refine PySem.Froz.add_x ho F hk hb ?_
    have z : insT ks k = k :: ks := if_neg hk
    refine hQ _ true (Heap.SameBut.update s.heap a _) (by
      rw [z]
      exact ⟨_, PySem.Froz.get_upd _ ho rfl, PySem.Froz.add_ok u F, List.nodup_cons.mpr ⟨hk, nd⟩, addTx_ris hr, hl.imp id fun y => by rw [addTx_led]; exact y, hb⟩)
def insAll (ks : List Str) : List Str → List Str
  | [] => ks
  | k :: r => insAll (insT ks k) r
theorem insAll_app (ks : List Str) : ∀ (xs ys : List Str), insAll ks (xs ++ ys) = insAll (insAll ks xs) ys
  | [], _ => rfl
  | x :: xs, ys => insAll_app (insT ks x) xs ys
theorem insT_len (ks : List Str) (k : Str) : (insT ks k).length ≤ ks.length + 1 := by
  unfold insT
  split <;> simp
theorem insAll_len : ∀ (xs ks : List Str), (insAll ks xs).length ≤ ks.length + xs.length
  | [], _ => by simp [insAll]
  | x :: xs, ks => by
    have h1 := insAll_len xs (insT ks x)
    have h2 := insT_len ks x
    simp only [insAll, List.length_cons]
    omega
theorem upd_texts {I : Addr} {fp wr : List Addr} {G : Array GenState → Array GenState → Prop} {n : Nat} {Pv : Nat → Value → Prop} {St : Nat → Shared → Prop} {R : Result → Shared → Prop}
    (W : WalksS P w A.in1 I fp wr G n Pv St) (S : Addr) (nf : S ∉ fp) (xs : List Str) (hn : n = xs.length) (hb : xs.length + 1 < scanBound) (hval : ∀ i v, Pv i v → ∃ k t, xs[i]? = some k ∧ v = .str k t) :
    ∀ (m i : Nat) (s : Shared), n - i = m → i ≤ n → St i s → TxR P w s.heap S (insAll [] (xs.take i)) →
      (∀ s', Moved (S :: wr) G s s' → TxR P w s'.heap S (insAll [] xs) → R (.ok (.ret .none)) s') →
      codeAny (model P w) A (.builtin "set.update.loop" ⟨[.ref S, .ref I], []⟩) R s := by
  have nw : S ∉ wr := fun h => nf (W.sub _ h)
  have sb : ∀ b ∈ wr, b ∈ S :: wr := fun b hb => List.mem_cons_of_mem _ hb
  intro m
  induction m with
  | zero =>
    intro i s hm hi hst hS hR
    have ei : i = n := by omega
    subst ei
    refine codeAny_builtin F.entry_set_update_loop ?_
    rw [Around.under_plainId F.plain_set_update_loop _]
    show wpAny _ A.in1 (pyNext (.ref I) >>= _) _ _ s
    refine wpAny_bind (W.done s _ _ hst fun s' mv => ?_)
    show wpAny _ A.in1 (ret Value.none) _ _ s'
    rw [List.take_of_length_le (by omega)] at hS
    exact wpAny_pure (hR s' (mv.mono sb) (hS.at fun o e => mv.heap S o nw e))
  | succ m ih =>
    intro i s hm hi hst hS hR
    have lt : i < n := by omega
    refine codeAny_builtin F.entry_set_update_loop ?_
    rw [Around.under_plainId F.plain_set_update_loop _]
    show wpAny _ A.in1 (pyNext (.ref I) >>= _) _ _ s
    refine wpAny_bind (W.item i s _ _ lt hst fun v s' hP st' mv => ?_)
    obtain ⟨z, t, hz, rfl⟩ := hval i v hP
    have hS' := hS.at (h' := s'.heap) fun o e => mv.heap S o nw e
    have l1 := insAll_len (xs.take i) []
    have l2 : (xs.take i).length ≤ i := List.length_take_le _ _
    have et : insT (insAll [] (xs.take i)) z = insAll [] (xs.take (i + 1)) := by
      rw [List.take_add_one, hz, insAll_app]; rfl
    show wpAny _ A.in1 (holding [Value.str z t] (setAdd S (.str z t)) >>= _) _ _ s'
    refine wpAny_bind (wpAny_holding ?_)
    unfold setAdd
    refine wpAny_holding (wpAny_bind ((strKind P w).pyHash (k := z) (PySem.Froz.is_str z t) ?_))
    refine ins_tx (s := { s' with toks := s'.toks + 1 }) hS' (by simp at l1; omega) fun h' b sm hS2 => ?_
    rw [et] at hS2
    refine wpAny_pure ⟨plainId_quiet F.plain_set_update_loop _, ih (i + 1) _ (by omega) lt (W.frame _ s' _ _ st' (Nat.le_succ _) fun b hb o e => ?_) hS2 fun s'' mv2 hS3 => ?_⟩
    · rw [sm.2 b (fun h : b = S => nf (by rw [← h]; exact hb))]; exact e
    · refine hR s'' (Moved.trans W.gtrans ((mv.mono sb).then_heap (Nat.le_succ _) fun b o hb e => ?_) mv2) hS3
      rw [sm.2 b (fun h : b = S => hb (by rw [h]; exact List.mem_cons_self))]; exact e
theorem TxR.fresh {h : Heap} : TxR P w (h.push { cls := .type "set", dict := none, data := .set #[] 0 (.fresh 0 0 (!w.params.followText "set-order")) }) h.objs.size [] :=
  ⟨(#[], 0, .fresh 0 0 (!w.params.followText "set-order")), Heap.get?_push_size _ rfl, PySem.Froz.TxOk.nil (by rfl), List.nodup_nil, List.Pairwise.nil, by
    show _ ∨ (!w.params.followText "set-order") = true
    cases w.params.followText "set-order"
    · exact .inr rfl
    · exact .inl rfl, by decide⟩
theorem set_of_list {l : Addr} {its : Array Value} (xs : List Str) {Q : Value → Shared → Prop} (hh : A.handled = none) (hl : s.heap.IsList l its) (hit : StrsAre its.toList xs) (hb : xs.length + 1 < scanBound)
    (hQ : ∀ (h' : Heap) (tk : Nat), TxR P w h' s.heap.objs.size (insAll [] xs) → (∀ b o, s.heap.get? b = some o → h'.get? b = some o) → Q (.ref s.heap.objs.size) { s with heap := h', toks := tk }) :
    wpAny (model P w) A (call (.type "set") [.ref l]) Q E s := by
  have isz : its.size = xs.length := by
    have q := PyProof.Rows.StrsAre.len_eq hit
    rw [Array.length_toList] at q; omega
  obtain ⟨c, tl, mro⟩ := F.called_set.mro
  have m1 := F.called_set.made; have m2 := F.called_set.sub
  refine wpAny_call (codeAny_of_tree (?_ : wpAny _ _ (callAny (.type "set") _) _ _ _))
  refine wpAny_pure ⟨Code.quiet_builtin _ (by decide +kernel), codeAny_builtin F.entry_type_call ?_⟩
  rw [Around.under_plain (weight_type_call_type "set" [.ref l] []) rfl]
  have g1 := F.called_set.notType; have g2 := F.called_set.canCreate; have g3 := F.typeCall_set_1 (.ref l)
  repeat (any_goals (first | assumption | wp_step))
  refine codeAny_mono (code_set_led1 (.ref l) (E := E) (Q₁ := fun z s1 => z = .ref s.heap.objs.size ∧ s1 = { s with heap := s.heap.push { cls := .type "set", dict := none, data := .set #[] 0 (.fresh 0 0 (!w.params.followText "set-order")) } }) ⟨rfl, rfl⟩) fun r s1 hr => ?_
  cases r with
  | error e => exact hr
  | ok fl =>
    cases fl with
    | ret z =>
      obtain ⟨rfl, rfl⟩ := hr
      have eS : (s.heap.push { cls := .type "set", dict := none, data := .set #[] 0 (.fresh 0 0 (!w.params.followText "set-order")) }).get? s.heap.objs.size = some { cls := .type "set", dict := none, data := .set #[] 0 (.fresh 0 0 (!w.params.followText "set-order")) } := Heap.get?_push_size _ rfl
      have eT : Shared.TypeIs { s with heap := s.heap.push { cls := .type "set", dict := none, data := .set #[] 0 (.fresh 0 0 (!w.params.followText "set-order")) } } (.ref s.heap.objs.size) "set" := ⟨_, eS, rfl⟩
      have i1 := F.called_set.init.lookup; have i2 := F.called_set.init.bind (.ref s.heap.objs.size)
      repeat (any_goals (first | assumption | wp_step))
      refine codeAny_mono (codeAny_call_builtin (R := wants (fun r s2 => r = .none ∧ ∃ h' tk, s2 = { s with heap := h', toks := tk } ∧ TxR P w h' s.heap.objs.size (insAll [] xs) ∧
          (∀ b o, s.heap.get? b = some o → h'.get? b = some o)) E) F.called_set.init.plain F.entry_set_init (check_set_init_1 eT ?_)) fun r2 s2 hr2 => ?_
      · obtain ⟨ol, hol, hcl, nl, hdl⟩ := hl
        obtain ⟨c1, d1, p1, o1⟩ := ol
        simp only at hcl hdl
        subst hcl hdl
        have hol' : (s.heap.push { cls := .type "set", dict := none, data := .set #[] 0 (.fresh 0 0 (!w.params.followText "set-order")) }).get? l = some { cls := .type "list", dict := d1, data := .seq its nl, slots := o1 } := Heap.get?_push_of_some _ hol
        have f1 := F.sub_list_set; have f2 := F.sub_list_frozenset
        have ne : (Value.type "list" == Value.type "dict") = false := by decide
        have hl1 : (s.heap.push { cls := .type "set", dict := none, data := .set #[] 0 (.fresh 0 0 (!w.params.followText "set-order")) }).IsList l its := ⟨_, hol', rfl, nl, rfl⟩
        unfold Builtin.«set.__init__» noKeywords Builtin.Frozenset.updateFrom
        generalize hPI : pyIter = PI
        wp_walk
        subst hPI
        refine wpAny_pyIter_list hl1 (wpAny_bind (wpAny_runValue ?_))
        have lS : l < s.heap.objs.size := Heap.lt_size hol
        have h3 : A.in1.in1.in1.handled = none := by simp [hh]
        have nI : l ≠ (s.heap.push { cls := .type "set", dict := none, data := .set #[] 0 (.fresh 0 0 (!w.params.followText "set-order")) }).objs.size := by
          rw [Heap.size_push]; exact Nat.ne_of_lt (Nat.lt_succ_of_lt lS)
        have nS : s.heap.objs.size ∉ [(s.heap.push { cls := .type "set", dict := none, data := .set #[] 0 (.fresh 0 0 (!w.params.followText "set-order")) }).objs.size, l] := by
          rw [Heap.size_push]; simp only [List.mem_cons, List.mem_singleton, List.not_mem_nil, or_false, not_or]; exact ⟨Nat.ne_of_lt (Nat.lt_succ_self _), Nat.ne_of_gt lS⟩
        have hv : ∀ (i : Nat) (v : Value), its[i]? = some v → ∃ k t, xs[i]? = some k ∧ v = .str k t := fun i v e => by
          have hi : i < xs.length := by rw [← isz]; exact (Array.getElem?_eq_some_iff.mp e).1
          obtain ⟨t, z⟩ := SS.strs_at hit i v (by rw [Array.getElem?_toList]; exact e)
          refine ⟨xs[i], t, List.getElem?_eq_getElem hi, ?_⟩
          rw [z, List.getD_eq_getElem?_getD, List.getElem?_eq_getElem hi]; rfl
        refine upd_texts ((Walks.list h3 _ l nI its).toS) s.heap.objs.size nS xs isz hb hv (its.size - 0) 0 _ (by omega) (Nat.zero_le _) ⟨⟨_, Heap.get?_push_size _ rfl, rfl, rfl⟩, (hl1.push _)⟩ ?hS0 ?hR
        case hS0 =>
          exact TxR.at TxR.fresh fun o e => Heap.get?_push_of_some _ e
        case hR =>
          intro s' mv hS'
          obtain ⟨h', g2, d', tk', os'⟩ := s'
          have eg : g2 = s.gens := mv.gens
          have ed : d' = s.drawn := mv.drawn
          have eo : os' = s.os := mv.os
          subst eg ed eo
          show wpAny _ _ _ _ _ _
          refine wpAny_pure (?_ : wpAny _ _ (ret Value.none) _ _ _)
          refine wpAny_pure ⟨rfl, h', tk', rfl, hS', fun b o e => ?_⟩
          have b0 : b < s.heap.objs.size := Heap.lt_size e
          have b2 : b ≠ (s.heap.push { cls := .type "set", dict := none, data := .set #[] 0 (.fresh 0 0 (!w.params.followText "set-order")) }).objs.size := by
            rw [Heap.size_push]; exact Nat.ne_of_lt (Nat.lt_succ_of_lt b0)
          exact mv.heap b o (by simp only [List.mem_cons, List.mem_singleton, List.not_mem_nil, or_false, not_or]; exact ⟨Nat.ne_of_lt b0, b2⟩) (Heap.get?_push_of_some _ (Heap.get?_push_of_some _ e))
      · cases r2 with
        | error e => exact hr2
        | ok fl2 =>
          cases fl2 with
          | ret r =>
            obtain ⟨rfl, h', tk, rfl, hS', hk'⟩ := hr2
            repeat (any_goals (first | assumption | wp_step))
            exact hQ _ _ hS' hk'
          | _ => exact hr2.elim
    | _ => exact hr.elim
theorem set_of_tuple {l : Addr} {its : Array Value} (xs : List Str) {Q : Value → Shared → Prop} (hh : A.handled = none) (hl : s.heap.IsTuple l its) (hit : StrsAre its.toList xs) (hb : xs.length + 1 < scanBound)
    (hQ : ∀ (h' : Heap) (tk : Nat), TxR P w h' s.heap.objs.size (insAll [] xs) → (∀ b o, s.heap.get? b = some o → h'.get? b = some o) → Q (.ref s.heap.objs.size) { s with heap := h', toks := tk }) :
    wpAny (model P w) A (call (.type "set") [.ref l]) Q E s := by
  have isz : its.size = xs.length := by
    have q := PyProof.Rows.StrsAre.len_eq hit
    rw [Array.length_toList] at q; omega
  obtain ⟨c, tl, mro⟩ := F.called_set.mro
  have m1 := F.called_set.made; have m2 := F.called_set.sub
  refine wpAny_call (codeAny_of_tree (?_ : wpAny _ _ (callAny (.type "set") _) _ _ _))
  refine wpAny_pure ⟨Code.quiet_builtin _ (by decide +kernel), codeAny_builtin F.entry_type_call ?_⟩
  rw [Around.under_plain (weight_type_call_type "set" [.ref l] []) rfl]
  have g1 := F.called_set.notType; have g2 := F.called_set.canCreate; have g3 := F.typeCall_set_1 (.ref l)
  repeat (any_goals (first | assumption | wp_step))
  refine codeAny_mono (code_set_led1 (.ref l) (E := E) (Q₁ := fun z s1 => z = .ref s.heap.objs.size ∧ s1 = { s with heap := s.heap.push { cls := .type "set", dict := none, data := .set #[] 0 (.fresh 0 0 (!w.params.followText "set-order")) } }) ⟨rfl, rfl⟩) fun r s1 hr => ?_
  cases r with
  | error e => exact hr
  | ok fl =>
    cases fl with
    | ret z =>
      obtain ⟨rfl, rfl⟩ := hr
      have eS : (s.heap.push { cls := .type "set", dict := none, data := .set #[] 0 (.fresh 0 0 (!w.params.followText "set-order")) }).get? s.heap.objs.size = some { cls := .type "set", dict := none, data := .set #[] 0 (.fresh 0 0 (!w.params.followText "set-order")) } := Heap.get?_push_size _ rfl
      have eT : Shared.TypeIs { s with heap := s.heap.push { cls := .type "set", dict := none, data := .set #[] 0 (.fresh 0 0 (!w.params.followText "set-order")) } } (.ref s.heap.objs.size) "set" := ⟨_, eS, rfl⟩
      have i1 := F.called_set.init.lookup; have i2 := F.called_set.init.bind (.ref s.heap.objs.size)
      repeat (any_goals (first | assumption | wp_step))
      refine codeAny_mono (codeAny_call_builtin (R := wants (fun r s2 => r = .none ∧ ∃ h' tk, s2 = { s with heap := h', toks := tk } ∧ TxR P w h' s.heap.objs.size (insAll [] xs) ∧
          (∀ b o, s.heap.get? b = some o → h'.get? b = some o)) E) F.called_set.init.plain F.entry_set_init (check_set_init_1 eT ?_)) fun r2 s2 hr2 => ?_
      · obtain ⟨ol, hol, hcl, nl, hdl⟩ := hl
        obtain ⟨c1, d1, p1, o1⟩ := ol
        simp only at hcl hdl
        subst hcl hdl
        have hol' : (s.heap.push { cls := .type "set", dict := none, data := .set #[] 0 (.fresh 0 0 (!w.params.followText "set-order")) }).get? l = some { cls := .type "tuple", dict := d1, data := .seq its nl, slots := o1 } := Heap.get?_push_of_some _ hol
        have f1 := F.sub_tuple_set; have f2 := F.sub_tuple_frozenset
        have ne : (Value.type "tuple" == Value.type "dict") = false := by decide
        have hl1 : (s.heap.push { cls := .type "set", dict := none, data := .set #[] 0 (.fresh 0 0 (!w.params.followText "set-order")) }).IsTuple l its := ⟨_, hol', rfl, nl, rfl⟩
        unfold Builtin.«set.__init__» noKeywords Builtin.Frozenset.updateFrom
        generalize hPI : pyIter = PI
        wp_walk
        subst hPI
        refine wpAny_pyIter_tuple hl1 (wpAny_bind (wpAny_runValue ?_))
        have lS : l < s.heap.objs.size := Heap.lt_size hol
        have h3 : A.in1.in1.in1.handled = none := by simp [hh]
        have nI : l ≠ (s.heap.push { cls := .type "set", dict := none, data := .set #[] 0 (.fresh 0 0 (!w.params.followText "set-order")) }).objs.size := by
          rw [Heap.size_push]; exact Nat.ne_of_lt (Nat.lt_succ_of_lt lS)
        have nS : s.heap.objs.size ∉ [(s.heap.push { cls := .type "set", dict := none, data := .set #[] 0 (.fresh 0 0 (!w.params.followText "set-order")) }).objs.size, l] := by
          rw [Heap.size_push]; simp only [List.mem_cons, List.mem_singleton, List.not_mem_nil, or_false, not_or]; exact ⟨Nat.ne_of_lt (Nat.lt_succ_self _), Nat.ne_of_gt lS⟩
        have hv : ∀ (i : Nat) (v : Value), its[i]? = some v → ∃ k t, xs[i]? = some k ∧ v = .str k t := fun i v e => by
          have hi : i < xs.length := by rw [← isz]; exact (Array.getElem?_eq_some_iff.mp e).1
          obtain ⟨t, z⟩ := SS.strs_at hit i v (by rw [Array.getElem?_toList]; exact e)
          refine ⟨xs[i], t, List.getElem?_eq_getElem hi, ?_⟩
          rw [z, List.getD_eq_getElem?_getD, List.getElem?_eq_getElem hi]; rfl
        refine upd_texts ((Walks.tuple h3 _ l nI its).toS) s.heap.objs.size nS xs isz hb hv (its.size - 0) 0 _ (by omega) (Nat.zero_le _) ⟨⟨_, Heap.get?_push_size _ rfl, rfl, rfl⟩, (hl1.push _)⟩ ?hS0 ?hR
        case hS0 =>
          exact TxR.at TxR.fresh fun o e => Heap.get?_push_of_some _ e
        case hR =>
          intro s' mv hS'
          obtain ⟨h', g2, d', tk', os'⟩ := s'
          have eg : g2 = s.gens := mv.gens
          have ed : d' = s.drawn := mv.drawn
          have eo : os' = s.os := mv.os
          subst eg ed eo
          show wpAny _ _ _ _ _ _
          refine wpAny_pure (?_ : wpAny _ _ (ret Value.none) _ _ _)
          refine wpAny_pure ⟨rfl, h', tk', rfl, hS', fun b o e => ?_⟩
          have b0 : b < s.heap.objs.size := Heap.lt_size e
          have b2 : b ≠ (s.heap.push { cls := .type "set", dict := none, data := .set #[] 0 (.fresh 0 0 (!w.params.followText "set-order")) }).objs.size := by
            rw [Heap.size_push]; exact Nat.ne_of_lt (Nat.lt_succ_of_lt b0)
          exact mv.heap b o (by simp only [List.mem_cons, List.mem_singleton, List.not_mem_nil, or_false, not_or]; exact ⟨Nat.ne_of_lt b0, b2⟩) (Heap.get?_push_of_some _ (Heap.get?_push_of_some _ e))
      · cases r2 with
        | error e => exact hr2
        | ok fl2 =>
          cases fl2 with
          | ret r =>
            obtain ⟨rfl, h', tk, rfl, hS', hk'⟩ := hr2
            repeat (any_goals (first | assumption | wp_step))
            exact hQ _ _ hS' hk'
          | _ => exact hr2.elim
    | _ => exact hr.elim
/-- such a set, as it stands -/
def TxO (P : Program) (w : World) (a : Addr) (ks : List Str) : HO := .ext fun h => TxR P w h a ks
theorem TxO.new {H : Hp} {h : Heap} {a : Addr} {ks : List Str} (R : TxR P w h a ks) : ObjOk P w H h a (TxO P w a ks) := by
  obtain ⟨D, ho, r⟩ := id R
  exact ⟨R, ⟨_, ho⟩, fun h1 h2 p k => TxR.at p k⟩
theorem TxO.get {X : Cx} {pins : List (Addr × Obj)} {σ : L2.St} {H : Hp} {a : Addr} {ks : List Str} (I : Inv X pins σ H s) (ha : H a = some (TxO X.prog X.w a ks)) : TxR X.prog X.w s.heap a ks := (I.hok a _ ha).1
end
end TH

/-! How clean values and cells stand in the abstract heap. -/
namespace TH
open PySem PySem.Spec PyProof.Rows L2

theorem lim_eq : lim = sizeLine := by rw [sizeLine_eq]; rfl
abbrev Ren := List Addr
def toS (s : List Nat) : Str := ⟨s.toArray⟩
theorem toS_len (s : List Nat) : (toS s).length = s.length := by simp [toS, Str.length]
theorem toS_app (a b : List Nat) : toS a ++ toS b = toS (a ++ b) := by
  show Str.append _ _ = _
  simp [toS, Str.append]
theorem toS_inj {a b : List Nat} (h : toS a = toS b) : a = b := by
  have := congrArg (fun s : Str => s.cps.toList) h
  simpa [toS] using this

/-- a list that stays as it is, with ints: the script -/
def Lk (K : PySem.W.Frag) (H : Hp) (a : Addr) (xs : List V) : Prop :=
  (∃ o, H a = some (.frz o (.lst xs))) ∨
    ∃ (o : Obj) (its : Array Value) (n : Nat), K.lookup a = some o ∧ o.cls = .type "list" ∧ o.dict = none ∧ o.data = .seq its n ∧ its.size ≤ sizeLine ∧ Vals xs its.toList
theorem Lk.sq {K : PySem.W.Frag} {H : Hp} {a : Addr} {xs : List V} (h : Lk K H a xs) : SqL K H a xs := by
  rcases h with ⟨o, h⟩ | h
  · exact .inl (.inr ⟨o, h⟩)
  · exact .inr h
/-- what never changes: a tuple, a frozen list -/
inductive Kp : HO → Prop
  | tup (vs : List V) : Kp (.tup vs)
  | frz (o : Obj) (vs : List V) : Kp (.frz o (.lst vs))
mutual
inductive RV (K : PySem.W.Frag) (r : Ren) (H : Hp) : CV → V → Prop
  | non : RV K r H .non .non
  | bl (b : Bool) : RV K r H (.bl b) (.bl b)
  | int (i : Int) : RV K r H (.int i) (.int i)
  | str (s : List Nat) : RV K r H (.str s) (.str (toS s))
  | tup {a : Addr} {xs : List CV} {vs : List V} : H a = some (.tup vs) → RVs K r H xs vs → RV K r H (.tup xs) (.ref a)
  | ref {n : Nat} {a : Addr} : r[n]? = some a → RV K r H (.ref n) (.ref a)
  | lst {a : Addr} {ns : List Int} : Lk K H a (ns.map V.int) → RV K r H (.lst (ns.map CV.int)) (.ref a)
inductive RVs (K : PySem.W.Frag) (r : Ren) (H : Hp) : List CV → List V → Prop
  | nil : RVs K r H [] []
  | cons {x : CV} {v : V} {xs : List CV} {vs : List V} : RV K r H x v → RVs K r H xs vs → RVs K r H (x :: xs) (v :: vs)
end
section
variable {K : PySem.W.Frag} {r : Ren} {H : Hp}
theorem RVs.length : ∀ {xs : List CV} {vs : List V}, RVs K r H xs vs → xs.length = vs.length
  | _, _, .nil => rfl
  | _, _, .cons _ t => by simp [RVs.length t]
theorem RVs.get : ∀ {xs : List CV} {vs : List V} {i : Nat} {x : CV}, RVs K r H xs vs → xs[i]? = some x → ∃ v, vs[i]? = some v ∧ RV K r H x v
  | _, _, _, _, .nil, e => by simp at e
  | _, _, 0, _, .cons q _, e => by simp at e; subst e; exact ⟨_, rfl, q⟩
  | _, _, i + 1, _, .cons _ t, e => by
    obtain ⟨v, h1, h2⟩ := RVs.get (i := i) t (by simpa using e)
    exact ⟨v, by simpa using h1, h2⟩
theorem RVs.get_none : ∀ {xs : List CV} {vs : List V} {i : Nat}, RVs K r H xs vs → xs[i]? = none → vs.length ≤ i := fun {xs vs i} q e => by
  rw [← q.length]; exact List.getElem?_eq_none_iff.mp e
theorem RVs.get' : ∀ {xs : List CV} {vs : List V} {i : Nat} {v : V}, RVs K r H xs vs → vs[i]? = some v → ∃ x, xs[i]? = some x ∧ RV K r H x v
  | _, _, _, _, .nil, e => by simp at e
  | _, _, 0, _, .cons q _, e => by simp at e; subst e; exact ⟨_, rfl, q⟩
  | _, _, i + 1, _, .cons _ t, e => by
    obtain ⟨v, h1, h2⟩ := RVs.get' (i := i) t (by simpa using e)
    exact ⟨v, by simpa using h1, h2⟩
theorem RVs.append : ∀ {xs ys : List CV} {vs ws : List V}, RVs K r H xs vs → RVs K r H ys ws → RVs K r H (xs ++ ys) (vs ++ ws)
  | _, _, _, _, .nil, q => q
  | _, _, _, _, .cons a t, q => .cons a (RVs.append t q)
theorem RVs.set : ∀ {xs : List CV} {vs : List V} (i : Nat) {x : CV} {v : V}, RVs K r H xs vs → RV K r H x v → RVs K r H (xs.set i x) (vs.set i v)
  | _, _, _, _, _, .nil, _ => .nil
  | _, _, 0, _, _, .cons _ t, q => .cons q t
  | _, _, i + 1, _, _, .cons a t, q => .cons a (RVs.set i t q)
theorem RVs.take : ∀ {xs : List CV} {vs : List V} (n : Nat), RVs K r H xs vs → RVs K r H (xs.take n) (vs.take n)
  | _, _, 0, _ => .nil
  | _, _, _ + 1, .nil => .nil
  | _, _, n + 1, .cons a t => .cons a (RVs.take n t)
theorem RVs.drop : ∀ {xs : List CV} {vs : List V} (n : Nat), RVs K r H xs vs → RVs K r H (xs.drop n) (vs.drop n)
  | _, _, 0, q => q
  | _, _, _ + 1, .nil => .nil
  | _, _, n + 1, .cons _ t => RVs.drop n t
theorem RVs.eraseIdx : ∀ {xs : List CV} {vs : List V} (i : Nat), RVs K r H xs vs → RVs K r H (xs.eraseIdx i) (vs.eraseIdx i)
  | _, _, _, .nil => .nil
  | _, _, 0, .cons _ t => t
  | _, _, i + 1, .cons a t => .cons a (RVs.eraseIdx i t)
theorem RVs.reverse : ∀ {xs : List CV} {vs : List V}, RVs K r H xs vs → RVs K r H xs.reverse vs.reverse
  | _, _, .nil => .nil
  | _, _, .cons a t => by
    rw [List.reverse_cons, List.reverse_cons]
    exact (RVs.reverse t).append (.cons a .nil)
end

/-! ### cells -/
def ofKey : Key → CV
  | .inl i => .int i
  | .inr x => .str x.cps.toList
abbrev RKV (K : PySem.W.Frag) (r : Ren) (H : Hp) : List (CV × CV) → List (Key × V) → Prop := Paired fun p q => p.1 = ofKey q.1 ∧ RV K r H p.2 q.2
abbrev RTV (K : PySem.W.Frag) (r : Ren) (H : Hp) : List (CV × CV) → List (List Key × V) → Prop := Paired fun p q => p.1 = .tup (q.1.map ofKey) ∧ RV K r H p.2 q.2
/-- a dict as it stands -/
def RD (K : PySem.W.Frag) (r : Ren) (H : Hp) (kvs : List (CV × CV)) (u : HO) : Prop :=
  (∃ es, u = .dK es ∧ RKV K r H kvs es) ∨ (∃ es, u = .dT es ∧ RTV K r H kvs es)
/-- a set of texts -/
def RSet (P : Program) (w : World) (xs : List CV) (a : Addr) (u : HO) : Prop :=
  ∃ ks : List Str, u = TxO P w a ks ∧ xs = ks.map fun k => .str k.cps.toList
def RO (P : Program) (w : World) (K : PySem.W.Frag) (r : Ren) (H : Hp) : CO → Addr → Prop
  | .lst xs, a => ∃ vs, H a = some (.lst vs) ∧ RVs K r H xs vs
  | .frz xs, a => ∃ o vs, H a = some (.frz o (.lst vs)) ∧ RVs K r H xs vs
  | .dct kvs, a => ∃ u, H a = some u ∧ RD K r H kvs u
  | .lkd kvs, a => ∃ o u, H a = some (.frz o u) ∧ RD K r H kvs u
  | .set xs, a => ∃ u, H a = some u ∧ RSet P w xs a u
structure RH (P : Program) (w : World) (K : PySem.W.Frag) (r : Ren) (h : CH) (H : Hp) : Prop where
  len : h.length = r.length
  nd : r.Nodup
  ob : ∀ (n : Nat) (o : CO) (a : Addr), h[n]? = some o → r[n]? = some a → RO P w K r H o a
structure Step (r : Ren) (H : Hp) (r' : Ren) (H' : Hp) : Prop where
  pre : ∃ t, r' = r ++ t
  keep : ∀ a o, H a = some o → a ∉ r → H' a = some o
  frz : ∀ a o u, H a = some (.frz o u) → H' a = some (.frz o u)
  new : ∀ a ∈ r', a ∉ r → H a = none
section
variable {P : Program} {w : World} {K : PySem.W.Frag} {r r' r'' : Ren} {H H' H'' : Hp} {h h' : CH}
theorem Step.refl : Step r H r H := ⟨⟨[], by simp⟩, fun _ _ e _ => e, fun _ _ _ e => e, fun a h1 h2 => absurd h1 h2⟩
theorem Step.sub (s : Step r H r' H') {a : Addr} (h : a ∈ r) : a ∈ r' := by
  obtain ⟨t, e⟩ := s.pre
  rw [e]; exact List.mem_append_left _ h
theorem Step.ix (s : Step r H r' H') {n : Nat} {a : Addr} (h : r[n]? = some a) : r'[n]? = some a := by
  obtain ⟨t, e⟩ := s.pre
  have hn : n < r.length := (List.getElem?_eq_some_iff.mp h).1
  rw [e, List.getElem?_append_left hn]; exact h
theorem Step.trans (s : Step r H r' H') (t : Step r' H' r'' H'') : Step r H r'' H'' where
  pre := by
    obtain ⟨a, e⟩ := s.pre
    obtain ⟨b, e2⟩ := t.pre
    exact ⟨a ++ b, by rw [e2, e, List.append_assoc]⟩
  keep := fun a o e n => t.keep a o (s.keep a o e n) fun z => by
    have := s.new a z n
    rw [e] at this; cases this
  frz := fun a o u e => t.frz a o u (s.frz a o u e)
  new := fun a h1 h2 => by
    by_cases z : a ∈ r'
    · exact s.new a z h2
    · have q := t.new a h1 z
      cases e : H a with
      | none => rfl
      | some o => rw [s.keep a o e h2] at q; cases q
theorem RO.notup {o : CO} {a : Addr} (q : RO P w K r H o a) : ∀ xs, ¬ Rd H a (.tup xs) := by
  intro xs z
  cases o with
  | lst ys => obtain ⟨vs, e, _⟩ := q; rcases z with z | ⟨_, z⟩ <;> (rw [e] at z; cases z)
  | frz ys => obtain ⟨_, vs, e, _⟩ := q; rcases z with z | ⟨_, z⟩ <;> (rw [e] at z; cases z)
  | dct ys =>
    obtain ⟨u, e, d⟩ := q
    rcases d with ⟨es, rfl, _⟩ | ⟨es, rfl, _⟩ <;> rcases z with z | ⟨_, z⟩ <;> (rw [e] at z; cases z)
  | lkd ys =>
    obtain ⟨_, u, e, d⟩ := q
    rcases d with ⟨es, rfl, _⟩ | ⟨es, rfl, _⟩ <;> rcases z with z | ⟨_, z⟩ <;> (rw [e] at z; cases z)
  | set ys =>
    obtain ⟨u, e, ks, rfl, _⟩ := q
    rcases z with z | ⟨_, z⟩ <;> (rw [e] at z; cases z)
theorem RH.notup (q : RH P w K r h H) {a : Addr} (ha : a ∈ r) : ∀ xs, ¬ Rd H a (.tup xs) := by
  obtain ⟨n, hn⟩ := List.getElem?_of_mem ha
  have hl : n < h.length := by rw [q.len]; exact (List.getElem?_eq_some_iff.mp hn).1
  exact (q.ob n h[n] a (List.getElem?_eq_getElem hl) hn).notup
theorem tup_step (q : RH P w K r h H) (s : Step r H r' H') {a : Addr} {vs : List V} (t : H a = some (.tup vs)) : H' a = some (.tup vs) :=
  s.keep a _ t fun z => q.notup z vs (.inl t)
mutual
theorem RV.keep (ht : ∀ a u, Kp u → H a = some u → H' a = some u) (hr : ∀ (n : Nat) (a : Addr), r[n]? = some a → r'[n]? = some a) : ∀ {x : CV} {v : V}, RV K r H x v → RV K r' H' x v
  | _, _, .non => .non
  | _, _, .bl b => .bl b
  | _, _, .int i => .int i
  | _, _, .str t => .str t
  | _, _, .tup t u => .tup (ht _ _ (.tup _) t) (RVs.keep ht hr u)
  | _, _, .ref e => .ref (hr _ _ e)
  | _, _, .lst (.inl ⟨o, e⟩) => .lst (.inl ⟨o, ht _ _ (.frz _ _) e⟩)
  | _, _, .lst (.inr e) => .lst (.inr e)
theorem RVs.keep (ht : ∀ a u, Kp u → H a = some u → H' a = some u) (hr : ∀ (n : Nat) (a : Addr), r[n]? = some a → r'[n]? = some a) : ∀ {xs : List CV} {vs : List V}, RVs K r H xs vs → RVs K r' H' xs vs
  | _, _, .nil => .nil
  | _, _, .cons a t => .cons (RV.keep ht hr a) (RVs.keep ht hr t)
end
theorem RO.keep (ht : ∀ a u, Kp u → H a = some u → H' a = some u) (hr : ∀ (n : Nat) (a : Addr), r[n]? = some a → r'[n]? = some a) {o : CO} {a : Addr} (e : H' a = H a) (d : RO P w K r H o a) : RO P w K r' H' o a := by
  have hd : ∀ {kvs : List (CV × CV)} {u : HO}, RD K r H kvs u → RD K r' H' kvs u := by
    intro kvs u d
    rcases d with ⟨es, e, d⟩ | ⟨es, e, d⟩
    · exact .inl ⟨es, e, Paired.mapP d fun _ _ z => ⟨z.1, z.2.keep ht hr⟩⟩
    · exact .inr ⟨es, e, Paired.mapP d fun _ _ z => ⟨z.1, z.2.keep ht hr⟩⟩
  cases o with
  | lst ys => obtain ⟨vs, z, d⟩ := d; exact ⟨vs, e.trans z, d.keep ht hr⟩
  | frz ys => obtain ⟨o, vs, z, d⟩ := d; exact ⟨o, vs, e.trans z, d.keep ht hr⟩
  | dct ys => obtain ⟨u, z, d⟩ := d; exact ⟨u, e.trans z, hd d⟩
  | lkd ys => obtain ⟨o, u, z, d⟩ := d; exact ⟨o, u, e.trans z, hd d⟩
  | set ys => obtain ⟨u, z, d⟩ := d; exact ⟨u, e.trans z, d⟩
mutual
theorem RV.step (q : RH P w K r h H) (s : Step r H r' H') : ∀ {x : CV} {v : V}, RV K r H x v → RV K r' H' x v
  | _, _, .non => .non
  | _, _, .bl b => .bl b
  | _, _, .int i => .int i
  | _, _, .str t => .str t
  | _, _, .tup t u => .tup (tup_step q s t) (RVs.step q s u)
  | _, _, .ref e => .ref (s.ix e)
  | _, _, .lst (.inl ⟨o, e⟩) => .lst (.inl ⟨o, s.frz _ _ _ e⟩)
  | _, _, .lst (.inr e) => .lst (.inr e)
theorem RVs.step (q : RH P w K r h H) (s : Step r H r' H') : ∀ {xs : List CV} {vs : List V}, RVs K r H xs vs → RVs K r' H' xs vs
  | _, _, .nil => .nil
  | _, _, .cons a t => .cons (RV.step q s a) (RVs.step q s t)
end
theorem RD.step (q : RH P w K r h H) (s : Step r H r' H') {kvs : List (CV × CV)} {u : HO} (d : RD K r H kvs u) : RD K r' H' kvs u := by
  rcases d with ⟨es, e, d⟩ | ⟨es, e, d⟩
  · exact .inl ⟨es, e, Paired.mapP d fun _ _ z => ⟨z.1, z.2.step q s⟩⟩
  · exact .inr ⟨es, e, Paired.mapP d fun _ _ z => ⟨z.1, z.2.step q s⟩⟩
/-- a cell that stands as it stood -/
theorem RO.step (q : RH P w K r h H) (s : Step r H r' H') {o : CO} {a : Addr} (e : H' a = H a) (d : RO P w K r H o a) : RO P w K r' H' o a := by
  cases o with
  | lst ys => obtain ⟨vs, z, d⟩ := d; exact ⟨vs, e.trans z, d.step q s⟩
  | frz ys => obtain ⟨o, vs, z, d⟩ := d; exact ⟨o, vs, e.trans z, d.step q s⟩
  | dct ys => obtain ⟨u, z, d⟩ := d; exact ⟨u, e.trans z, d.step q s⟩
  | lkd ys => obtain ⟨o, u, z, d⟩ := d; exact ⟨o, u, e.trans z, d.step q s⟩
  | set ys => obtain ⟨u, z, d⟩ := d; exact ⟨u, e.trans z, d⟩
theorem RH.at (q : RH P w K r h H) {n : Nat} {a : Addr} {o : CO} (e : h[n]? = some o) (v : RV K r H (.ref n) (.ref a)) : RO P w K r H o a := by
  cases v with
  | ref z => exact q.ob n o a e z
theorem RH.addr (q : RH P w K r h H) {n : Nat} {o : CO} (e : h[n]? = some o) : ∃ a, r[n]? = some a ∧ RO P w K r H o a := by
  have hl : n < r.length := by rw [← q.len]; exact (List.getElem?_eq_some_iff.mp e).1
  exact ⟨r[n], List.getElem?_eq_getElem hl, q.ob n o _ e (List.getElem?_eq_getElem hl)⟩
/-- a thing that is new and no cell: a tuple -/
theorem Step.laid {p : Addr} {o : HO} (hp : H p = none) : Step r H r (upd H p o) :=
  ⟨⟨[], by simp⟩, fun a u e _ => by rw [upd_ne (ne_of_none e hp)]; exact e, fun a u v e => by rw [upd_ne (ne_of_none e hp)]; exact e, fun a h1 h2 => absurd h1 h2⟩
theorem RH.laid (q : RH P w K r h H) {p : Addr} {o : HO} (hp : H p = none) : RH P w K r h (upd H p o) where
  len := q.len
  nd := q.nd
  ob := fun n c a e1 e2 => by
    have d := q.ob n c a e1 e2
    refine d.step q (Step.laid hp) (upd_ne ?_)
    rintro rfl
    cases c with
    | lst _ => obtain ⟨_, z, _⟩ := d; rw [hp] at z; cases z
    | frz _ => obtain ⟨_, _, z, _⟩ := d; rw [hp] at z; cases z
    | dct _ => obtain ⟨_, z, _⟩ := d; rw [hp] at z; cases z
    | lkd _ => obtain ⟨_, _, z, _⟩ := d; rw [hp] at z; cases z
    | set _ => obtain ⟨_, z, _⟩ := d; rw [hp] at z; cases z
theorem RH.fresh (q : RH P w K r h H) {p : Addr} (hp : H p = none) : p ∉ r := fun z => by
  obtain ⟨n, hn⟩ := List.getElem?_of_mem z
  have hl : n < h.length := by rw [q.len]; exact (List.getElem?_eq_some_iff.mp hn).1
  have d := q.ob n h[n] p (List.getElem?_eq_getElem hl) hn
  generalize h[n] = c at d
  cases c with
  | lst _ => obtain ⟨_, z, _⟩ := d; rw [hp] at z; cases z
  | frz _ => obtain ⟨_, _, z, _⟩ := d; rw [hp] at z; cases z
  | dct _ => obtain ⟨_, z, _⟩ := d; rw [hp] at z; cases z
  | lkd _ => obtain ⟨_, _, z, _⟩ := d; rw [hp] at z; cases z
  | set _ => obtain ⟨_, z, _⟩ := d; rw [hp] at z; cases z
/-- a new cell -/
theorem Step.cell {p : Addr} {o : HO} (hp : H p = none) : Step r H (r ++ [p]) (upd H p o) :=
  ⟨⟨[p], rfl⟩, fun a u e _ => by rw [upd_ne (ne_of_none e hp)]; exact e, fun a u v e => by rw [upd_ne (ne_of_none e hp)]; exact e,
    fun a h1 h2 => by rcases List.mem_append.mp h1 with z | z; exact absurd z h2; rw [List.mem_singleton.mp z]; exact hp⟩
theorem RH.cell (q : RH P w K r h H) {p : Addr} {o : HO} {c : CO} (hp : H p = none) (new : RO P w K (r ++ [p]) (upd H p o) c p) : RH P w K (r ++ [p]) (h ++ [c]) (upd H p o) where
  len := by simp [q.len]
  nd := List.nodup_append.mpr ⟨q.nd, by simp, fun a ha b hb e => by rw [List.mem_singleton.mp hb] at e; exact q.fresh hp (e ▸ ha)⟩
  ob := fun n d a e1 e2 => by
    by_cases hn : n < h.length
    · rw [List.getElem?_append_left hn] at e1
      rw [List.getElem?_append_left (by rw [← q.len]; exact hn)] at e2
      refine (q.ob n d a e1 e2).step q (Step.cell hp) (upd_ne ?_)
      rintro rfl
      exact q.fresh hp (List.mem_of_getElem? e2)
    · have hn' : n = h.length := by
        have := (List.getElem?_eq_some_iff.mp e1).1
        simp at this
        omega
      subst hn'
      rw [List.getElem?_append_right (Nat.le_refl _)] at e1
      rw [q.len, List.getElem?_append_right (Nat.le_refl _)] at e2
      simp at e1 e2
      subst e1 e2
      exact new
/-- a cell is written -/
theorem Step.write {n : Nat} {a : Addr} {o : HO} (e : r[n]? = some a) (nf : ∀ x u, H a ≠ some (.frz x u)) : Step r H r (upd H a o) :=
  ⟨⟨[], by simp⟩, fun b u z nb => by rw [upd_ne (show b ≠ a from fun y => nb (by rw [y]; exact List.mem_of_getElem? e))]; exact z, fun b x u z => by rw [upd_ne (show b ≠ a from fun y => nf x u (by rw [← y]; exact z))]; exact z, fun a h1 h2 => absurd h1 h2⟩
theorem RH.write (q : RH P w K r h H) {n : Nat} {a : Addr} {o : HO} {c : CO} (e : r[n]? = some a) (nf : ∀ x u, H a ≠ some (.frz x u)) (new : RO P w K r (upd H a o) c a) : RH P w K r (h.set n c) (upd H a o) where
  len := by simp [q.len]
  nd := q.nd
  ob := fun m d b e1 e2 => by
    by_cases hm : m = n
    · subst hm
      rw [e] at e2; cases e2
      have hl : m < h.length := by rw [q.len]; exact (List.getElem?_eq_some_iff.mp e).1
      rw [List.getElem?_set_self hl] at e1
      cases e1
      exact new
    · rw [List.getElem?_set_ne (Ne.symm hm)] at e1
      refine (q.ob m d b e1 e2).step q (Step.write e nf) (upd_ne ?_)
      rintro rfl
      exact hm (nd_ix q.nd e2 e)
/-- a list that is no cell is changed -/
theorem RH.other (q : RH P w K r h H) {D : Addr} {o : HO} (nt : ∀ u, Kp u → H D ≠ some u) (hD : D ∉ r) : RH P w K r h (upd H D o) where
  len := q.len
  nd := q.nd
  ob := fun n c a e1 e2 => (q.ob n c a e1 e2).keep (fun b u k e => by rw [upd_ne (fun z => nt u k (by rw [← z]; exact e))]; exact e) (fun _ _ e => e) (upd_ne fun z => hD (by rw [← z]; exact List.mem_of_getElem? e2))
/-- a list that was none becomes a cell -/
theorem RH.adopt (q : RH P w K r h H) {D : Addr} {c : CO} (hD : D ∉ r) (new : RO P w K (r ++ [D]) H c D) : RH P w K (r ++ [D]) (h ++ [c]) H where
  len := by simp [q.len]
  nd := List.nodup_append.mpr ⟨q.nd, by simp, fun a ha b hb e => by rw [List.mem_singleton.mp hb] at e; exact hD (e ▸ ha)⟩
  ob := fun n d a e1 e2 => by
    by_cases hn : n < h.length
    · rw [List.getElem?_append_left hn] at e1
      rw [List.getElem?_append_left (by rw [← q.len]; exact hn)] at e2
      refine (q.ob n d a e1 e2).keep (fun _ _ _ e => e) (fun m b e => ?_) rfl
      rw [List.getElem?_append_left (List.getElem?_eq_some_iff.mp e).1]; exact e
    · have hn' : n = h.length := by
        have := (List.getElem?_eq_some_iff.mp e1).1
        simp at this
        omega
      subst hn'
      rw [List.getElem?_append_right (Nat.le_refl _)] at e1
      rw [q.len, List.getElem?_append_right (Nat.le_refl _)] at e2
      simp at e1 e2
      subst e1 e2
      exact new
end
end TH

/-! Data: what == says. -/
namespace TH
open PySem PySem.Spec PyProof.Rows L2

mutual
def pd : CV → PyData
  | .non => .none
  | .bl b => .bool b
  | .int i => .int i
  | .str s => .str (toS s)
  | .tup xs => .tuple (pds xs)
  | .lst xs => .list (pds xs)
  | .ref _ => .none
def pds : List CV → List PyData
  | [] => []
  | x :: xs => pd x :: pds xs
end
theorem pds_map : ∀ xs : List CV, pds xs = xs.map pd
  | [] => rfl
  | x :: xs => by rw [pds, pds_map xs]; rfl
/- no reference within -/
mutual
def nref : CV → Bool
  | .tup xs => nrefs xs
  | .lst xs => nrefs xs
  | .ref _ => false
  | _ => true
def nrefs : List CV → Bool
  | [] => true
  | x :: xs => nref x && nrefs xs
end
mutual
theorem plain_pd : ∀ d : CV, (pd d).plain = true
  | .non => rfl
  | .bl _ => rfl
  | .int _ => rfl
  | .str _ => rfl
  | .tup xs => by simp only [pd, PyData.plain]; exact plain_pds xs
  | .lst xs => by simp only [pd, PyData.plain]; exact plain_pds xs
  | .ref _ => rfl
theorem plain_pds : ∀ ds : List CV, PyData.plainAll (pds ds) = true
  | [] => rfl
  | x :: xs => by simp only [pds, PyData.plainAll, plain_pd x, plain_pds xs, Bool.and_self]
end
theorem toS_beq (a b : List Nat) : (toS a == toS b) = (a == b) := by
  by_cases h : a = b
  · subst h; simp
  · have : toS a ≠ toS b := fun e => h (toS_inj e)
    rw [beq_eq_false_iff_ne.mpr this, beq_eq_false_iff_ne.mpr h]
mutual
theorem ceq_pd : ∀ a b : CV, nref a = true → nref b = true → PyData.eqv (pd a) (pd b) = ceq a b
  | .non, b, _, hb => by cases b <;> first | rfl | (simp [nref] at hb)
  | .bl _, b, _, hb => by cases b <;> first | rfl | (simp [nref] at hb)
  | .int _, b, _, hb => by cases b <;> first | rfl | (simp [nref] at hb)
  | .str x, b, _, hb => by
    cases b with
    | str y => simp only [pd, PyData.eqv, ceq, toS_beq]
    | ref _ => simp [nref] at hb
    | _ => rfl
  | .tup xs, b, ha, hb => by
    cases b with
    | tup ys => simp only [pd, PyData.eqv, ceq]; exact ceqs_pds xs ys (by simpa [nref] using ha) (by simpa [nref] using hb)
    | ref _ => simp [nref] at hb
    | _ => rfl
  | .lst xs, b, ha, hb => by
    cases b with
    | lst ys => simp only [pd, PyData.eqv, ceq]; exact ceqs_pds xs ys (by simpa [nref] using ha) (by simpa [nref] using hb)
    | ref _ => simp [nref] at hb
    | _ => rfl
  | .ref _, _, ha, _ => by simp [nref] at ha
theorem ceqs_pds : ∀ a b : List CV, nrefs a = true → nrefs b = true → PyData.eqvAll (pds a) (pds b) = ceqs a b
  | [], [], _, _ => rfl
  | [], _ :: _, _, _ => rfl
  | _ :: _, [], _, _ => rfl
  | a :: as, b :: bs, ha, hb => by
    simp only [nrefs, Bool.and_eq_true] at ha hb
    simp only [pds, PyData.eqvAll, ceqs, ceq_pd a b ha.1 hb.1, ceqs_pds as bs ha.2 hb.2]
end
section
variable {P : Program} {w : World} {K : PySem.W.Frag} {r : Ren} {H : Hp} {h : CH}
mutual
theorem den_ok (q : RH P w K r h H) : ∀ (n : Nat) (x d : CV) (v : V), den h n x = some d → RV K r H x v → Dp K H v (pd d) ∧ nref d = true ∧ (pd d).depth ≤ n
  | n, .non, d, v, e, u => by cases n <;> simp only [den, Option.some.injEq] at e <;> subst e <;> cases u <;> exact ⟨.non, rfl, Nat.zero_le _⟩
  | n, .bl b, d, v, e, u => by cases n <;> simp only [den, Option.some.injEq] at e <;> subst e <;> cases u <;> exact ⟨.bl b, rfl, Nat.zero_le _⟩
  | n, .int b, d, v, e, u => by cases n <;> simp only [den, Option.some.injEq] at e <;> subst e <;> cases u <;> exact ⟨.int b, rfl, Nat.zero_le _⟩
  | n, .str b, d, v, e, u => by cases n <;> simp only [den, Option.some.injEq] at e <;> subst e <;> cases u <;> exact ⟨.str _, rfl, Nat.zero_le _⟩
  | 0, .tup _, d, v, e, u => by simp [den] at e
  | 0, .ref _, d, v, e, u => by simp [den] at e
  | 0, .lst _, d, v, e, u => by simp [den] at e
  | _ + 1, .lst _, d, v, e, u => by simp [den] at e
  | n + 1, .tup xs, d, v, e, u => by
    simp only [den, Option.map_eq_some_iff] at e
    obtain ⟨ds, e, rfl⟩ := e
    cases u with
    | tup t us =>
      obtain ⟨a, b, c⟩ := dens_ok q n xs ds _ e us
      exact ⟨.tup (SqT.of t) a, b, by simp only [pd, PyData.depth]; omega⟩
  | n + 1, .ref m, d, v, e, u => by
    simp only [den] at e
    split at e
    · rename_i xs hm
      simp only [Option.map_eq_some_iff] at e
      obtain ⟨ds, e, rfl⟩ := e
      cases u with
      | ref z =>
        obtain ⟨vs, e1, us⟩ := q.ob _ _ _ hm z
        obtain ⟨a, b, c⟩ := dens_ok q n xs ds _ e us
        exact ⟨.lst (SqL.of e1) a, b, by simp only [pd, PyData.depth]; omega⟩
    · rename_i xs hm
      simp only [Option.map_eq_some_iff] at e
      obtain ⟨ds, e, rfl⟩ := e
      cases u with
      | ref z =>
        obtain ⟨o, vs, e1, us⟩ := q.ob _ _ _ hm z
        obtain ⟨a, b, c⟩ := dens_ok q n xs ds _ e us
        exact ⟨.lst (.inl (.inr ⟨o, e1⟩)) a, b, by simp only [pd, PyData.depth]; omega⟩
    · cases e
theorem dens_ok (q : RH P w K r h H) : ∀ (n : Nat) (xs ds : List CV) (vs : List V), dens h n xs = some ds → RVs K r H xs vs → DpAll K H vs (pds ds) ∧ nrefs ds = true ∧ PyData.depthAll (pds ds) ≤ n
  | n, [], ds, vs, e, u => by
    have e : some [] = some ds := by cases n <;> simpa only [dens] using e
    cases e; cases u
    exact ⟨.nil, rfl, Nat.zero_le _⟩
  | n, x :: xs, ds, vs, e, u => by
    have e : (den h n x).bind (fun y => (dens h n xs).bind fun ys => some (y :: ys)) = some ds := by cases n <;> simpa only [dens] using e
    simp only [Option.bind_eq_some_iff, Option.some.injEq] at e
    obtain ⟨d, e1, ds', e2, rfl⟩ := e
    cases u with
    | cons u us =>
      obtain ⟨a1, b1, c1⟩ := den_ok q n x d _ e1 u
      obtain ⟨a2, b2, c2⟩ := dens_ok q n xs ds' _ e2 us
      exact ⟨.cons a1 a2, by simp only [nrefs, b1, b2, Bool.and_self], by simp only [pds, PyData.depthAll]; omega⟩
end
end

/-! ### the weakest readings -/
def wE (X : Cx) (e : Expr) : TE := fun σ H Q => ∀ (pins : List (Addr × Obj)) (s : Shared), Inv X pins σ H s → wpAny (model X.prog X.w) X.A (eval e X.env) (EP X pins σ Q) X.xe s
def wT (X : Cx) (e : Expr) : TT := fun σ H Q => ∀ (pins : List (Addr × Obj)) (s : Shared), Inv X pins σ H s → wpAny (model X.prog X.w) X.A (isTrue e X.env (eval e X.env)) (TP X pins σ Q) X.xe s
def wO (X : Cx) (f : Value → Value → Sem Value) : R2 := fun x y H Q => ∀ (pins : List (Addr × Obj)) (s : Shared) (σ : L2.St) (v u : Value), Inv X pins σ H s → RelV x v → RelV y u → wpAny (model X.prog X.w) X.A (f v u) (EP X pins σ Q) X.xe s
def wC (X : Cx) (f : Value) : List V → Hp → VK → Prop := fun xs H Q => ∀ (pins : List (Addr × Obj)) (s : Shared) (σ : L2.St) (us : List Value), Inv X pins σ H s → Vals xs us → wpAny (model X.prog X.w) X.A (call f us) (EP X pins σ Q) X.xe s
def wM (X : Cx) (id : String) : V → List V → Hp → VK → Prop := fun x xs H Q => ∀ (pins : List (Addr × Obj)) (s : Shared) (σ : L2.St) (v : Value) (us : List Value), Inv X pins σ H s → RelV x v → Vals xs us → wpAny (model X.prog X.w) X.A (call (.builtin id) (v :: us)) (EP X pins σ Q) X.xe s
section
variable {X : Cx} {e : Expr}
theorem peW : PE X e (wE X e) := ⟨fun pins s σ H Q I h => h pins s I⟩
theorem ptW : PT X e (wT X e) := ⟨fun pins s σ H Q I h => h pins s I⟩
theorem PE.w {t : TE} (p : PE X e t) {σ : L2.St} {H : Hp} {Q : VK} (h : t σ H Q) : wE X e σ H Q := fun pins s I => p.run pins s σ H Q I h
theorem PT.w {t : TT} (p : PT X e t) {σ : L2.St} {H : Hp} {Q : Bool → Hp → Prop} (h : t σ H Q) : wT X e σ H Q := fun pins s I => p.run pins s σ H Q I h
theorem opW {f : Value → Value → Sem Value} : OpR X f (wO X f) := fun pins s σ H x y v u Q I r1 r2 h => h pins s σ v u I r1 r2
theorem OpR.w {f : Value → Value → Sem Value} {r : R2} (p : OpR X f r) {x y : V} {H : Hp} {Q : VK} (h : r x y H Q) : wO X f x y H Q := fun pins s σ v u I r1 r2 => p pins s σ H x y v u Q I r1 r2 h
theorem callW {f : Value} : CallR X f (wC X f) := fun pins s σ H xs us Q I r h => h pins s σ us I r
theorem CallR.w {f : Value} {r : List V → Hp → VK → Prop} (p : CallR X f r) {xs : List V} {H : Hp} {Q : VK} (h : r xs H Q) : wC X f xs H Q := fun pins s σ us I q => p pins s σ H xs us Q I q h
theorem methW {id : String} : MtR X id (wM X id) := fun pins s σ H x xs v us Q I r1 r2 h => h pins s σ v us I r1 r2
theorem MtR.w {id : String} {r : V → List V → Hp → VK → Prop} (p : MtR X id r) {x : V} {xs : List V} {H : Hp} {Q : VK} (h : r x xs H Q) : wM X id x xs H Q := fun pins s σ v us I r1 r2 => p pins s σ H x xs v us Q I r1 r2 h
/-- == and != of data -/
theorem op_eqP (hu : X.A.units + 64 < cLine) : OpR X (compareOp .Eq) (fun x y H Q => ∃ d e, Dp X.K H x d ∧ Dp X.K H y e ∧ d.plain = true ∧ e.plain = true ∧ d.depth ≤ 60 ∧ Q (.bl (PyData.eqv d e)) H) := by
  intro pins s σ H x y v u Q I rx ry h
  obtain ⟨d, e, hd, he, sd, se, hz, q⟩ := h
  obtain ⟨as, r1⟩ := Dp.reads I d x v hd rx
  obtain ⟨bs, r2⟩ := Dp.reads I e y u he ry
  have : min d.depth e.depth ≤ d.depth := Nat.min_le_left _ _
  exact SeqAt.eq_plain r1 r2 sd se (by omega) ⟨.bl _, H, I, rfl, q⟩
theorem op_neP (hu : X.A.units + 64 < cLine) : OpR X (compareOp .NotEq) (fun x y H Q => ∃ d e, Dp X.K H x d ∧ Dp X.K H y e ∧ d.plain = true ∧ e.plain = true ∧ d.depth ≤ 60 ∧ Q (.bl (!PyData.eqv d e)) H) := by
  intro pins s σ H x y v u Q I rx ry h
  obtain ⟨d, e, hd, he, sd, se, hz, q⟩ := h
  obtain ⟨as, r1⟩ := Dp.reads I d x v hd rx
  obtain ⟨bs, r2⟩ := Dp.reads I e y u he ry
  have : min d.depth e.depth ≤ d.depth := Nat.min_le_left _ _
  exact SeqAt.ne_plain r1 r2 sd se (by omega) ⟨.bl _, H, I, rfl, q⟩
theorem op_inP (hu : X.A.units + 64 < cLine) : OpR X (compareOp .In) (fun x y H Q => ∃ d ds, Dp X.K H x d ∧ (Dp X.K H y (.list ds) ∨ Dp X.K H y (.tuple ds)) ∧ d.plain = true ∧ PyData.plainAll ds = true ∧ d.depth ≤ 60 ∧ Q (.bl (ds.any fun z => PyData.eqv z d)) H) := by
  intro pins s σ H x y v u Q I rx ry h
  obtain ⟨d, ds, hd, he, sd, se, hz, q⟩ := h
  obtain ⟨as, r1⟩ := Dp.reads I d x v hd rx
  have : min (PyData.depthAll ds) d.depth ≤ d.depth := Nat.min_le_right _ _
  rcases he with he | he
  · obtain ⟨bs, r2⟩ := Dp.reads I _ y u he ry
    exact SeqAt.in_list_data r2 r1 se sd (by omega) ⟨.bl _, H, I, rfl, q⟩
  · obtain ⟨bs, r2⟩ := Dp.reads I _ y u he ry
    exact SeqAt.in_tuple_data r2 r1 se sd (by omega) ⟨.bl _, H, I, rfl, q⟩
theorem op_notInP (hu : X.A.units + 64 < cLine) : OpR X (compareOp .NotIn) (fun x y H Q => ∃ d ds, Dp X.K H x d ∧ (Dp X.K H y (.list ds) ∨ Dp X.K H y (.tuple ds)) ∧ d.plain = true ∧ PyData.plainAll ds = true ∧ d.depth ≤ 60 ∧ Q (.bl (!ds.any fun z => PyData.eqv z d)) H) := by
  intro pins s σ H x y v u Q I rx ry h
  obtain ⟨d, ds, hd, he, sd, se, hz, q⟩ := h
  obtain ⟨as, r1⟩ := Dp.reads I d x v hd rx
  have : min (PyData.depthAll ds) d.depth ≤ d.depth := Nat.min_le_right _ _
  rcases he with he | he
  · obtain ⟨bs, r2⟩ := Dp.reads I _ y u he ry
    exact SeqAt.notIn_list_data r2 r1 se sd (by omega) ⟨.bl _, H, I, rfl, q⟩
  · obtain ⟨bs, r2⟩ := Dp.reads I _ y u he ry
    exact SeqAt.notIn_tuple_data r2 r1 se sd (by omega) ⟨.bl _, H, I, rfl, q⟩
end
theorem any_pds (d : CV) (hd : nref d = true) : ∀ zs : List CV, nrefs zs = true → ((pds zs).any fun z => PyData.eqv z (pd d)) = zs.any fun z => ceq z d
  | [], _ => rfl
  | z :: zs, h => by
    simp only [nrefs, Bool.and_eq_true] at h
    simp only [pds, List.any_cons, ceq_pd z d h.1 hd, any_pds d hd zs h.2]
end TH

/-! Operators by values. -/
namespace TH
open PySem PySem.Spec PyProof.Rows L2

def PostE (X : Cx) (r : Ren) (H : Hp) (c : CV) (h' : CH) (Q : VK) : Prop :=
  ∀ v r' H', Step r H r' H' → RH X.prog X.w X.K r' h' H' → RV X.K r' H' c v → Q v H'
section
variable {X : Cx} {r : Ren} {H : Hp} {h h' : CH} {c : CV} {Q : VK}
theorem PostE.same (p : PostE X r H c h Q) (q : RH X.prog X.w X.K r h H) {v : V} (u : RV X.K r H c v) : Q v H := p v r H .refl q u
/-- a new tuple -/
theorem PostE.tup {xs : List CV} (p : PostE X r H (.tup xs) h Q) (q : RH X.prog X.w X.K r h H) {vs : List V} (u : RVs X.K r H xs vs) : ∀ a, H a = none → Q (.ref a) (upd H a (.tup vs)) := fun a ha =>
  p _ r _ (Step.laid ha) (q.laid ha) (.tup upd_same (u.step q (Step.laid ha)))
/-- a new list -/
theorem PostE.lst {xs : List CV} (p : PostE X r H (.ref h.length) (h ++ [.lst xs]) Q) (q : RH X.prog X.w X.K r h H) {vs : List V} (u : RVs X.K r H xs vs) : ∀ a, H a = none → Q (.ref a) (upd H a (.lst vs)) := fun a ha => by
  refine p _ (r ++ [a]) _ (Step.cell ha) (q.cell ha ⟨vs, upd_same, u.step q (Step.cell ha)⟩) (.ref ?_)
  rw [q.len]; simp
theorem newc_eq {o : CO} (e : newc h o = some (c, h')) : c = .ref h.length ∧ h' = h ++ [o] := by
  unfold newc at e
  cases e
  exact ⟨rfl, rfl⟩
theorem b64_of {i : Int} (h : b64 i = true) : -(2 ^ 64) < i ∧ i < 2 ^ 64 := by
  unfold b64 at h
  simpa using h
theorem repS_len (s : List Nat) : ∀ n, (repS s n).length = s.length * n
  | 0 => rfl
  | n + 1 => by rw [repS, List.length_append, repS_len s n, Nat.mul_succ]; omega
theorem foldl_repS (s : Array Nat) : ∀ (n : Nat) (a : Array Nat), ((List.replicate n s).foldl (· ++ ·) a).toList = a.toList ++ repS s.toList n
  | 0, a => by simp [repS]
  | n + 1, a => by
    rw [List.replicate_succ, List.foldl_cons, foldl_repS s n]
    simp [repS]
theorem txt_mul (s : List Nat) (k : Int) : Txt.mul (toS s) k = toS (repS s k.toNat) := by
  unfold Txt.mul
  by_cases h1 : k < 1
  · rw [if_pos h1]
    have : k.toNat = 0 := by omega
    rw [this]; rfl
  · rw [if_neg h1]
    by_cases h2 : (k == 1 || (toS s).length == 0) = true
    · rw [if_pos h2]
      rw [toS_len] at h2
      simp only [Bool.or_eq_true, beq_iff_eq] at h2
      rcases h2 with h2 | h2
      · subst h2; simp [repS]
      · have e : s = [] := List.length_eq_zero_iff.mp h2
        subst e
        have : ∀ n, repS [] n = [] := fun n => by induction n with | zero => rfl | succ n ih => simp [repS, ih]
        rw [this]
    · rw [if_neg h2]
      unfold toS
      congr 1
      apply Array.toList_inj.mp
      rw [foldl_repS]
      simp
theorem op_mulS : OpR X (binaryOp .Mult) (fun x y H Q => ∃ s k, x = .str (toS s) ∧ y = .int k ∧ k < 2 ^ 62 ∧ -(2 ^ 62) < k ∧ s.length * k.toNat ≤ sizeLine ∧ Q (.str (toS (repS s k.toNat))) H) := by
  intro pins st σ H x y v u Q I rx ry q
  obtain ⟨s, k, rfl, rfl, h1, h2, h3, q⟩ := q
  obtain ⟨t, rfl⟩ := rx
  obtain ⟨t', rfl⟩ := ry
  refine SB.mul ⟨?_, fun h4 h5 => ?_, fun h4 h5 => ?_⟩ fun tt kk => ?_
  · have e1 : decide (k < -(2 ^ 63 : Int)) = false := decide_eq_false (by omega)
    have e2 : decide (k ≥ (2 ^ 63 : Int)) = false := decide_eq_false (by omega)
    rw [e1, e2]; rfl
  · rw [toS_len]
    rw [sizeLine_eq] at h3
    have hk : 0 < k := by omega
    intro h6
    have h7 : (2 ^ 63 - 1) / k * k ≤ 2 ^ 63 - 1 := Int.ediv_mul_le _ (by omega)
    have h8 : (2 ^ 63 - 1 : Int) < ((2 ^ 63 - 1) / k + 1) * k := Int.lt_ediv_add_one_mul_self _ hk
    have h9 : ((2 ^ 63 - 1) / k + 1) * k ≤ (s.length : Int) * k := Int.mul_le_mul_of_nonneg_right (by omega) (by omega)
    have h10 : ((s.length * k.toNat : Nat) : Int) = (s.length : Int) * k := by
      rw [Int.natCast_mul, Int.toNat_of_nonneg (by omega)]
    omega
  · rw [toS_len]
    unfold Builtin.Str.tooLong
    simpa using h3
  · rw [txt_mul]
    exact ⟨.str _, H, I.tok _, ⟨_, rfl⟩, q⟩
def opOf : BOp → Operator
  | .add => .Add | .sub => .Sub | .mul => .Mult | .fdiv => .FloorDiv | .mod => .Mod | .pow => .Pow
theorem RVs.rep {xs : List CV} {vs : List V} (u : RVs X.K r H xs vs) : ∀ n : Nat, RVs X.K r H (List.replicate n xs).flatten (List.replicate n vs).flatten
  | 0 => .nil
  | n + 1 => by
    rw [List.replicate_succ, List.replicate_succ, List.flatten_cons, List.flatten_cons]
    exact u.append (RVs.rep u n)
theorem bin_ok (q : RH X.prog X.w X.K r h H) {o : BOp} {a b : CV} {x y : V} (u : RV X.K r H a x) (v : RV X.K r H b y) (e : binV o a b h = some (c, h')) (p : PostE X r H c h' Q) : wO X (binaryOp (opOf o)) x y H Q := by
  unfold binV at e
  split at e
  · cases u; cases v; cases e
    exact OpR.w op_add ⟨_, _, rfl, rfl, p.same q (.int _)⟩
  · cases u; cases v
    split at e <;> cases e
    rename_i hl
    refine OpR.w op_add_str ⟨_, _, rfl, rfl, by rw [toS_len, toS_len, ← lim_eq]; exact hl, ?_⟩
    rw [toS_app]
    exact p.same q (.str _)
  · cases u with | tup t1 u =>
    cases v with | tup t2 v =>
    split at e <;> cases e
    rename_i xs ys hl
    refine OpR.w op_catA ⟨_, _, _, _, rfl, rfl, SqT.of t1, SqT.of t2, by rw [← u.length, ← v.length, ← lim_eq]; exact hl, fun hx => ?_, fun _ hy => ?_, fun _ _ => ?_⟩
    · subst hx
      cases u
      exact p.same q (.tup t2 v)
    · subst hy
      cases v
      exact p.same q (.tup t1 (by simpa using u))
    · exact p.tup q (u.append v)
  · cases u with | ref z1 =>
    cases v with | ref z2 =>
    split at e
    · rename_i e1 e2
      split at e
      · rename_i hl
        obtain ⟨rfl, rfl⟩ := newc_eq e
        obtain ⟨vs, g1, u⟩ := q.ob _ _ _ e1 z1
        obtain ⟨ws, g2, v⟩ := q.ob _ _ _ e2 z2
        exact OpR.w op_cat ⟨_, _, _, _, rfl, rfl, g1, g2, by rw [← u.length, ← v.length, ← lim_eq]; exact hl, p.lst q (u.append v)⟩
      · cases e
    · cases e
  · cases u; cases v; cases e
    exact OpR.w op_sub ⟨_, _, rfl, rfl, p.same q (.int _)⟩
  · cases u; cases v
    split at e <;> cases e
    rename_i hl
    rw [Bool.or_eq_true, Bool.or_eq_true] at hl
    rcases hl with hl | hl
    · exact OpR.w op_mul ⟨_, _, rfl, rfl, hl.imp b64_of b64_of, p.same q (.int _)⟩
    · have h2 := of_decide_eq_true (show decide _ = true from hl)
      exact OpR.w op_mulX ⟨_, _, rfl, rfl, mulx_ok Nat.lt_log2_self Nat.lt_log2_self (by omega), p.same q (.int _)⟩
  · cases u; cases v
    split at e <;> cases e
    rename_i hl
    exact OpR.w op_mulS ⟨_, _, rfl, rfl, hl.1, hl.2.1, by rw [← lim_eq]; exact hl.2.2, p.same q (.str _)⟩
  · cases v
    cases u with | @tup _ ys vs t us =>
    split at e <;> cases e
    rename_i hl
    refine OpR.w op_repT ⟨_, _, _, rfl, rfl, SqT.of t, fun z => hl.2.2.1 ?_, hl.1, hl.2.1, by rw [← us.length]; exact hl.2.2.2, p.tup q (us.rep _)⟩
    have := us.length
    rw [z] at this
    exact List.length_eq_zero_iff.mp this
  · cases v
    cases u with | ref z =>
    split at e
    · rename_i hm
      split at e
      · rename_i hl
        obtain ⟨rfl, rfl⟩ := newc_eq e
        obtain ⟨vs, g, us⟩ := q.ob _ _ _ hm z
        exact OpR.w op_rep ⟨_, _, _, rfl, rfl, g, by omega, by omega, by rw [← us.length, ← lim_eq]; exact hl.2.2, p.lst q (us.rep _)⟩
      · cases e
    · cases e
  · cases u; cases v
    split at e <;> cases e
    rename_i hl
    exact OpR.w op_fdiv ⟨_, _, rfl, rfl, hl, p.same q (.int _)⟩
  · cases u; cases v
    split at e <;> cases e
    rename_i hl
    exact OpR.w op_mod ⟨_, _, rfl, rfl, hl, p.same q (.int _)⟩
  · cases u; cases v
    split at e <;> cases e
    rename_i hl
    exact OpR.w op_pow ⟨_, _, rfl, rfl, hl, p.same q (.int _)⟩
  · cases e

/-! ### comparisons -/
def cmpOf : COp → CmpOp
  | .eq => .Eq | .ne => .NotEq | .lt => .Lt | .le => .LtE | .gt => .Gt | .ge => .GtE | .isin => .In | .notin => .NotIn | .is => .Is | .isnot => .IsNot
theorem eqV_ok (q : RH X.prog X.w X.K r h H) {a b : CV} {x y : V} (u : RV X.K r H a x) (v : RV X.K r H b y) {k : Bool} (e : eqV h a b = some k) :
    ∃ d e', Dp X.K H x d ∧ Dp X.K H y e' ∧ d.plain = true ∧ e'.plain = true ∧ d.depth ≤ 60 ∧ PyData.eqv d e' = k := by
  unfold eqV at e
  simp only [Option.bind_eq_some_iff, Option.some.injEq] at e
  obtain ⟨d, e1, d', e2, e3⟩ := e
  obtain ⟨a1, b1, c1⟩ := den_ok q _ _ _ _ e1 u
  obtain ⟨a2, b2, c2⟩ := den_ok q _ _ _ _ e2 v
  exact ⟨_, _, a1, a2, plain_pd _, plain_pd _, Nat.le_trans c1 (by decide), by rw [ceq_pd _ _ b1 b2]; exact e3⟩
theorem ofKey_inj : ∀ {k j : Key}, ofKey k = ofKey j → k = j
  | .inl _, .inl _, e => by cases e; rfl
  | .inr a, .inr b, e => by
    simp only [ofKey, CV.str.injEq] at e
    have : a = b := by
      cases a; cases b
      simp only [Str.mk.injEq]
      exact Array.toList_inj.mp e
    rw [this]
  | .inl _, .inr _, e => by cases e
  | .inr _, .inl _, e => by cases e
theorem ofKeys_inj : ∀ {k j : List Key}, k.map ofKey = j.map ofKey → k = j
  | [], [], _ => rfl
  | [], _ :: _, e => by simp at e
  | _ :: _, [], e => by simp at e
  | a :: k, b :: j, e => by
    simp only [List.map_cons, List.cons.injEq] at e
    rw [ofKey_inj e.1, ofKeys_inj e.2]
theorem leaf_key {a : CV} {x : V} (u : RV X.K r H a x) (hl : leafK a = true) : ∃ k, a = ofKey k ∧ x = kV k := by
  cases u with
  | int i => exact ⟨.inl i, rfl, rfl⟩
  | str s => exact ⟨.inr (toS s), by simp [ofKey, toS], rfl⟩
  | _ => simp [leafK] at hl
theorem leaf_keys : ∀ {as : List CV} {xs : List V}, RVs X.K r H as xs → as.all leafK = true → ∃ ks : List Key, as = ks.map ofKey ∧ xs = ks.map kV
  | _, _, .nil, _ => ⟨[], rfl, rfl⟩
  | _, _, .cons u t, hl => by
    simp only [List.all_cons, Bool.and_eq_true] at hl
    obtain ⟨k, e1, e2⟩ := leaf_key u hl.1
    obtain ⟨ks, e3, e4⟩ := leaf_keys t hl.2
    exact ⟨k :: ks, by rw [e1, e3]; rfl, by rw [e2, e4]; rfl⟩
/-- look-ups agree -/
theorem dget_K {kvs : List (CV × CV)} {es : List (Key × V)} (d : RKV X.K r H kvs es) (k : Key) : (dget kvs (ofKey k) = none ∧ valV es k = none) ∨ ∃ x v, dget kvs (ofKey k) = some x ∧ valV es k = some v ∧ RV X.K r H x v := by
  induction d with
  | nil => exact .inl ⟨rfl, rfl⟩
  | @cons p e ps es hp t ih =>
    obtain ⟨h1, h2⟩ := hp
    by_cases z : e.1 = k
    · refine .inr ⟨p.2, e.2, ?_, ?_, h2⟩
      · simp [dget, List.find?_cons, h1, z]
      · simp [valV, List.find?_cons, z]
    · have z' : ¬ p.1 = ofKey k := fun y => z (ofKey_inj (h1.symm.trans y))
      have e1 : dget (p :: ps) (ofKey k) = dget ps (ofKey k) := by simp [dget, List.find?_cons, z']
      have e2 : valV (e :: es) k = valV es k := by simp [valV, List.find?_cons, z]
      rw [e1, e2]; exact ih
theorem dget_T {kvs : List (CV × CV)} {es : List (List Key × V)} (d : RTV X.K r H kvs es) (k : List Key) : (dget kvs (.tup (k.map ofKey)) = none ∧ valV es k = none) ∨ ∃ x v, dget kvs (.tup (k.map ofKey)) = some x ∧ valV es k = some v ∧ RV X.K r H x v := by
  induction d with
  | nil => exact .inl ⟨rfl, rfl⟩
  | @cons p e ps es hp t ih =>
    obtain ⟨h1, h2⟩ := hp
    by_cases z : e.1 = k
    · refine .inr ⟨p.2, e.2, ?_, ?_, h2⟩
      · simp [dget, List.find?_cons, h1, z]
      · simp [valV, List.find?_cons, z]
    · have z' : ¬ p.1 = .tup (k.map ofKey) := fun y => z (ofKeys_inj (by have := h1.symm.trans y; simpa using this))
      have e1 : dget (p :: ps) (.tup (k.map ofKey)) = dget ps (.tup (k.map ofKey)) := by simp [dget, List.find?_cons, z']
      have e2 : valV (e :: es) k = valV es k := by simp [valV, List.find?_cons, z]
      rw [e1, e2]; exact ih
end
end TH

/-! Comparisons, dicts by values. -/
namespace TH
open PySem PySem.Spec PyProof.Rows L2
section
variable {X : Cx} {r : Ren} {H : Hp} {h h' : CH} {c : CV} {Q : VK}
theorem upd_self {H : Hp} {a : Addr} {o : HO} (e : H a = some o) : upd H a o = H := by
  funext b; unfold upd; split
  · rename_i z; rw [z, e]
  · rfl
theorem set_self {α : Type} {l : List α} {n : Nat} {x : α} (e : l[n]? = some x) : l.set n x = l := by
  apply List.ext_getElem?
  intro i
  by_cases z : n = i
  · subst z
    have := (List.getElem?_eq_some_iff.mp e).1
    rw [List.getElem?_set_self this, e]
  · rw [List.getElem?_set_ne z]
/-- an empty dict is of both kinds -/
theorem swapTK {pins : List (Addr × Obj)} {σ : L2.St} {s : Shared} {a : Addr} (I : Inv X pins σ H s) (e : H a = some (.dK [])) : Inv X pins σ (upd H a (.dT [])) s := by
  obtain ⟨z, y, vs, kv, o, es, ep, g1, g2, g3, g4, g5, g6⟩ := (show ObjOk X.prog X.w H s.heap a (.dK []) from I.hok a _ e)
  cases kv
  have e0 : es.toList = [] := by
    generalize es.toList = l at g5
    cases g5
    rfl
  exact I.write (h' := s.heap) (t' := s.toks) (x := a) (e := a) (by rw [e]; trivial) (.inl rfl) (fun _ _ _ q => q) ⟨o, g1⟩ ⟨z, y, [], .nil, o, es, ep, g1, g2, g3, by rw [e0]; rfl, by simp⟩
theorem swapKT {pins : List (Addr × Obj)} {σ : L2.St} {s : Shared} {a : Addr} (I : Inv X pins σ H s) (e : H a = some (.dT [])) : Inv X pins σ (upd H a (.dK [])) s := by
  obtain ⟨z, y, vs, kv, o, es, ep, g1, g2, g3, g4, g5⟩ := (show ObjOk X.prog X.w H s.heap a (.dT []) from I.hok a _ e)
  cases kv
  have e0 : es.toList = [] := g4
  have e1 : es = #[] := Array.toList_inj.mp e0
  subst e1
  exact I.write (h' := s.heap) (t' := s.toks) (x := a) (e := a) (by rw [e]; trivial) (.inl rfl) (fun _ _ _ q => q) ⟨o, g1⟩ ⟨z, y, [], .nil, o, #[], ep, g1, g2, g3, (fun x hx => by simp at hx), .nil, by simp⟩
theorem tup_not_leaf {x : CV} (e : tupK x = true) : leafK x = false := by
  cases x <;> first | rfl | (simp [tupK] at e)
theorem ofKey_leaf (k : Key) : leafK (ofKey k) = true := by cases k <;> rfl
theorem kok_cases {kvs : List (CV × CV)} {k : CV} (h : kok kvs k = true) : (leafK k = true ∧ ∀ p ∈ kvs, leafK p.1 = true) ∨ (tupK k = true ∧ ∀ p ∈ kvs, tupK p.1 = true) := by
  unfold kok keysOk at h
  simp only [List.all_cons, Bool.or_eq_true, Bool.and_eq_true, List.all_eq_true, List.mem_map] at h
  rcases h with ⟨a, b⟩ | ⟨a, b⟩
  · exact .inl ⟨a, fun p hp => b _ ⟨p, hp, rfl⟩⟩
  · exact .inr ⟨a, fun p hp => b _ ⟨p, hp, rfl⟩⟩
theorem dct_use (q : RH X.prog X.w X.K r h H) {n : Nat} {a : Addr} {kvs : List (CV × CV)} {k : CV} (hn : h[n]? = some (.dct kvs)) (ha : r[n]? = some a) (hk : kok kvs k = true) :
    ∃ H2, (∀ (pins : List (Addr × Obj)) (σ : L2.St) (s : Shared), Inv X pins σ H s → Inv X pins σ H2 s) ∧ Step r H r H2 ∧ RH X.prog X.w X.K r h H2 ∧
      ((leafK k = true ∧ ∃ es, H2 a = some (.dK es) ∧ RKV X.K r H2 kvs es) ∨ (tupK k = true ∧ ∃ es, H2 a = some (.dT es) ∧ RTV X.K r H2 kvs es)) := by
  obtain ⟨u, e, d⟩ := q.ob n _ a hn ha
  have nf : ∀ (o : Obj) (v : HO), H a ≠ some (.frz o v) := fun o v z => by
    rw [e] at z
    rcases d with ⟨es, rfl, _⟩ | ⟨es, rfl, _⟩ <;> cases z
  rcases d with ⟨es, rfl, d⟩ | ⟨es, rfl, d⟩
  · rcases kok_cases hk with ⟨lk, _⟩ | ⟨tk, ta⟩
    · exact ⟨H, fun _ _ _ I => I, .refl, q, .inl ⟨lk, es, e, d⟩⟩
    · cases d with
      | nil =>
        refine ⟨upd H a (.dT []), fun pins σ s I => swapTK I e, Step.write ha nf, ?_, .inr ⟨tk, [], upd_same, .nil⟩⟩
        have := q.write (c := .dct []) ha nf (o := .dT []) ⟨_, upd_same, .inr ⟨[], rfl, .nil⟩⟩
        rwa [set_self hn] at this
      | cons hp t =>
        have := ta _ List.mem_cons_self
        rw [hp.1] at this
        have := tup_not_leaf this
        rw [ofKey_leaf] at this; cases this
  · rcases kok_cases hk with ⟨lk, la⟩ | ⟨tk, _⟩
    · cases d with
      | nil =>
        refine ⟨upd H a (.dK []), fun pins σ s I => swapKT I e, Step.write ha nf, ?_, .inl ⟨lk, [], upd_same, .nil⟩⟩
        have := q.write (c := .dct []) ha nf (o := .dK []) ⟨_, upd_same, .inl ⟨[], rfl, .nil⟩⟩
        rwa [set_self hn] at this
      | cons hp t =>
        have := la _ List.mem_cons_self
        rw [hp.1] at this
        simp [leafK] at this
    · exact ⟨H, fun _ _ _ I => I, .refl, q, .inr ⟨tk, es, e, d⟩⟩
/-- what is found -/
def OV (X : Cx) (r : Ren) (H : Hp) (x : Option CV) (v : Option V) : Prop := (x = none ∧ v = none) ∨ ∃ y u, x = some y ∧ v = some u ∧ RV X.K r H y u
theorem dget_at (q : RH X.prog X.w X.K r h H) {a : Addr} {kvs : List (CV × CV)} {k : CV} {y : V} (u : RV X.K r H k y)
    (d : (leafK k = true ∧ ∃ es, Rd H a (.dK es) ∧ RKV X.K r H kvs es) ∨ (tupK k = true ∧ ∃ es, Rd H a (.dT es) ∧ RTV X.K r H kvs es)) : ∃ ov, DGet H a y ov ∧ OV X r H (dget kvs k) ov := by
  rcases d with ⟨lk, es, e, d⟩ | ⟨tk, es, e, d⟩
  · obtain ⟨k', rfl, rfl⟩ := leaf_key u lk
    exact ⟨valV es k', .inl ⟨es, k', e, rfl, rfl⟩, dget_K d k'⟩
  · cases u with
    | @tup b xs vs e2 us =>
      obtain ⟨ks, rfl, rfl⟩ := leaf_keys us (by simpa [tupK] using tk)
      exact ⟨valV es ks, .inr ⟨es, ks, b, e, rfl, e2, rfl⟩, dget_T d ks⟩
    | _ => simp [tupK] at tk
theorem lkd_use (q : RH X.prog X.w X.K r h H) {n : Nat} {a : Addr} {kvs : List (CV × CV)} {k : CV} (hn : h[n]? = some (.lkd kvs)) (ha : r[n]? = some a) (hk : kok kvs k = true) (ne : kvs ≠ []) :
    (leafK k = true ∧ ∃ es, Rd H a (.dK es) ∧ RKV X.K r H kvs es) ∨ (tupK k = true ∧ ∃ es, Rd H a (.dT es) ∧ RTV X.K r H kvs es) := by
  obtain ⟨o, u, e, d⟩ := q.ob n _ a hn ha
  rcases d with ⟨es, rfl, d⟩ | ⟨es, rfl, d⟩
  · rcases kok_cases hk with ⟨lk, _⟩ | ⟨tk, ta⟩
    · exact .inl ⟨lk, es, .inr ⟨o, e⟩, d⟩
    · cases d with
      | nil => exact absurd rfl ne
      | cons hp t =>
        have := ta _ List.mem_cons_self
        rw [hp.1] at this
        have := tup_not_leaf this
        rw [ofKey_leaf] at this; cases this
  · rcases kok_cases hk with ⟨lk, la⟩ | ⟨tk, _⟩
    · cases d with
      | nil => exact absurd rfl ne
      | cons hp t =>
        have := la _ List.mem_cons_self
        rw [hp.1] at this
        simp [leafK] at this
    · exact .inr ⟨tk, es, .inr ⟨o, e⟩, d⟩
/-- a dict that is read: in a heap in which it is of the key's kind -/
theorem dict_read (q : RH X.prog X.w X.K r h H) {n : Nat} {a : Addr} {kvs : List (CV × CV)} {k : CV} {y : V} (hn : h[n]? = some (.dct kvs) ∨ (h[n]? = some (.lkd kvs) ∧ kvs ≠ [])) (ha : r[n]? = some a) (hk : kok kvs k = true) (u : RV X.K r H k y) :
    ∃ H2 ov, (∀ (pins : List (Addr × Obj)) (σ : L2.St) (s : Shared), Inv X pins σ H s → Inv X pins σ H2 s) ∧ Step r H r H2 ∧ RH X.prog X.w X.K r h H2 ∧ DGet H2 a y ov ∧ OV X r H2 (dget kvs k) ov := by
  rcases hn with hn | ⟨hn, ne⟩
  · obtain ⟨H2, i2, st, q2, d⟩ := dct_use q hn ha hk
    obtain ⟨ov, g, o⟩ := dget_at q2 (u.step q st) (a := a) (kvs := kvs) (d.imp (fun ⟨z, es, e, d⟩ => ⟨z, es, .inl e, d⟩) fun ⟨z, es, e, d⟩ => ⟨z, es, .inl e, d⟩)
    exact ⟨H2, ov, i2, st, q2, g, o⟩
  · obtain ⟨ov, g, o⟩ := dget_at q u (lkd_use q hn ha hk ne)
    exact ⟨H, ov, fun _ _ _ I => I, .refl, q, g, o⟩
theorem OV.isSome {x : Option CV} {v : Option V} (o : OV X r H x v) : v.isSome = x.isSome := by
  rcases o with ⟨rfl, rfl⟩ | ⟨y, u, rfl, rfl, _⟩ <;> rfl

/-! ### in -/
theorem dec_any {c : Nat} {t : List Nat} {a : Decidable (c ∈ (toS t).cps.toList)} {b : Decidable (c ∈ t)} : @decide (c ∈ (toS t).cps.toList) a = @decide (c ∈ t) b := by
  have : ∀ {p q : Prop} (a : Decidable p) (b : Decidable q), p = q → @decide p a = @decide q b := by
    intro p q a b e
    subst e
    rw [Subsingleton.elim a b]
  exact this _ _ (by simp [toS])
theorem in_ok (hu : X.A.units + 64 < cLine) (q : RH X.prog X.w X.K r h H) {neg : Bool} {a b : CV} {x y : V} (u : RV X.K r H a x) (v : RV X.K r H b y) {k : Bool} (e : inV h a b = some k)
    (p : PostE X r H (.bl (if neg then !k else k)) h Q) : wO X (compareOp (if neg then .NotIn else .In)) x y H Q := by
  have seq : ∀ {d : CV} {zs : List CV}, den h dep a = some d → nrefs zs = true → (Dp X.K H y (.list (pds zs)) ∨ Dp X.K H y (.tuple (pds zs))) → (zs.any fun z => ceq z d) = k → wO X (compareOp (if neg then .NotIn else .In)) x y H Q := by
    intro d zs e1 e2 e3 e4
    obtain ⟨a1, b1, c1⟩ := den_ok q _ _ _ _ e1 u
    have e5 : ((pds zs).any fun z => PyData.eqv z (pd d)) = k := (any_pds d b1 zs e2).trans e4
    cases neg with
    | false => exact OpR.w (op_inP hu) ⟨_, _, a1, e3, plain_pd _, plain_pds _, Nat.le_trans c1 (by decide), by rw [e5]; exact p.same q (.bl _)⟩
    | true => exact OpR.w (op_notInP hu) ⟨_, _, a1, e3, plain_pd _, plain_pds _, Nat.le_trans c1 (by decide), by rw [e5]; exact p.same q (.bl _)⟩
  have dct : ∀ {n : Nat} {kvs : List (CV × CV)}, b = .ref n → (h[n]? = some (.dct kvs) ∨ (h[n]? = some (.lkd kvs) ∧ kvs ≠ [])) → kok kvs a = true → (dget kvs a).isSome = k → wO X (compareOp (if neg then .NotIn else .In)) x y H Q := by
    intro n kvs e1 e2 e3 e4
    subst e1
    cases v with | ref z =>
    obtain ⟨H2, ov, i2, st, q2, g, o⟩ := dict_read q e2 z e3 u
    intro pins s σ vv uu I r1 r2
    cases r2
    have e5 := o.isSome.trans e4
    have pq : Q (.bl (if neg then !k else k)) H2 := p _ r H2 st q2 (.bl _)
    cases neg with
    | false => exact d_in (by omega) (i2 _ _ _ I) g r1 fun s3 I3 => ⟨.bl _, H2, I3, rfl, by rw [e5]; exact pq⟩
    | true => exact d_notIn (by omega) (i2 _ _ _ I) g r1 fun s3 I3 => ⟨.bl _, H2, I3, rfl, by rw [e5]; exact pq⟩
  unfold inV at e
  split at e
  · split at e
    · cases u; cases v; cases e
      cases neg with
      | false => exact OpR.w op_in_sign ⟨_, _, rfl, rfl, by rw [dec_any]; exact p.same q (.bl _)⟩
      | true => exact OpR.w op_notIn_sign ⟨_, _, rfl, rfl, by rw [dec_any]; exact p.same q (.bl _)⟩
    · cases e
  · simp only [Option.bind_eq_some_iff, Option.some.injEq] at e
    obtain ⟨d, e1, zs, e2, e3⟩ := e
    cases v with | tup t us =>
    obtain ⟨a2, b2, c2⟩ := dens_ok q _ _ _ _ e2 us
    exact seq e1 b2 (.inr (.tup (SqT.of t) a2)) e3
  · split at e
    · rename_i n ys hm
      simp only [Option.bind_eq_some_iff, Option.some.injEq] at e
      obtain ⟨d, e1, zs, e2, e3⟩ := e
      cases v with | ref z =>
      obtain ⟨vs, g, us⟩ := q.ob _ _ _ hm z
      obtain ⟨a2, b2, c2⟩ := dens_ok q _ _ _ _ e2 us
      exact seq e1 b2 (.inl (.lst (SqL.of g) a2)) e3
    · rename_i n ys hm
      simp only [Option.bind_eq_some_iff, Option.some.injEq] at e
      obtain ⟨d, e1, zs, e2, e3⟩ := e
      cases v with | ref z =>
      obtain ⟨o, vs, g, us⟩ := q.ob _ _ _ hm z
      obtain ⟨a2, b2, c2⟩ := dens_ok q _ _ _ _ e2 us
      exact seq e1 b2 (.inl (.lst (.inl (.inr ⟨o, g⟩)) a2)) e3
    · rename_i n kvs hm
      split at e
      · rename_i hk
        cases e
        exact dct rfl (.inl hm) hk rfl
      · cases e
    · rename_i n kvs hm
      split at e
      · rename_i hk
        rw [Bool.and_eq_true] at hk
        cases e
        exact dct rfl (.inr ⟨hm, fun z => by rw [z] at hk; simp at hk⟩) hk.1 rfl
      · cases e
    · cases e
  · cases e
theorem cmp_ok (hu : X.A.units + 64 < cLine) (q : RH X.prog X.w X.K r h H) {o : COp} {a b : CV} {x y : V} (u : RV X.K r H a x) (v : RV X.K r H b y) {k : Bool} (e : cmpV o a b h = some k) (p : PostE X r H (.bl k) h Q) : wO X (compareOp (cmpOf o)) x y H Q := by
  unfold cmpV at e
  split at e
  · obtain ⟨d, d', a1, a2, b1, b2, c1, e1⟩ := eqV_ok q u v e
    exact OpR.w (op_eqP hu) ⟨_, _, a1, a2, b1, b2, c1, by rw [e1]; exact p.same q (.bl _)⟩
  · simp only [Option.map_eq_some_iff] at e
    obtain ⟨k', e, rfl⟩ := e
    obtain ⟨d, d', a1, a2, b1, b2, c1, e1⟩ := eqV_ok q u v e
    exact OpR.w (op_neP hu) ⟨_, _, a1, a2, b1, b2, c1, by rw [e1]; exact p.same q (.bl _)⟩
  · cases u; cases v; cases e
    exact OpR.w op_lt ⟨_, _, rfl, rfl, p.same q (.bl _)⟩
  · cases u; cases v; cases e
    exact OpR.w op_le ⟨_, _, rfl, rfl, p.same q (.bl _)⟩
  · cases u; cases v; cases e
    exact OpR.w op_gt ⟨_, _, rfl, rfl, p.same q (.bl _)⟩
  · cases u; cases v; cases e
    exact OpR.w op_ge ⟨_, _, rfl, rfl, p.same q (.bl _)⟩
  · exact in_ok (neg := false) hu q u v e p
  · simp only [Option.map_eq_some_iff] at e
    obtain ⟨k', e, rfl⟩ := e
    exact in_ok (neg := true) hu q u v e p
  · cases v; cases e
    refine OpR.w op_isN ⟨rfl, ?_⟩
    have : decide (x = V.non) = decide (a = CV.non) := by cases u <;> simp
    rw [this]; exact p.same q (.bl _)
  · cases v; cases e
    refine OpR.w op_notN ⟨rfl, ?_⟩
    have : (!decide (x = V.non)) = decide (a ≠ CV.non) := by cases u <;> simp
    rw [this]; exact p.same q (.bl _)
  · cases u; cases v; cases e
    refine OpR.w op_isBl ⟨_, _, rfl, rfl, ?_⟩
    rw [← Bool.beq_eq_decide_eq]; exact p.same q (.bl _)
  · cases u; cases v; cases e
    refine OpR.w op_notBl ⟨_, _, rfl, rfl, ?_⟩
    rw [← Bool.beq_eq_decide_eq]; exact p.same q (.bl _)
  · cases e
end
end TH

/-! Subscripts, slices, stores by values. -/
namespace TH
open PySem PySem.Spec PyProof.Rows L2
section
variable {X : Cx} {r : Ren} {H : Hp} {h h' : CH} {c : CV} {Q : VK}
def wI (X : Cx) : R2 := fun x y H Q => ∀ (value slice : Expr) (pins : List (Addr × Obj)) (s : Shared) (σ : L2.St) (v u : Value), Inv X pins σ H s → RelV x v → RelV y u →
  subscripted slice false v u = operate [v, u] (getItem v u) → wpAny (model X.prog X.w) X.A (subscriptTail value slice v u) (EP X pins σ Q) X.xe s
theorem ixW : IxR X (wI X) := fun value slice pins s σ H x y v u Q I r1 r2 h e => h value slice pins s σ v u I r1 r2 e
theorem IxR.w {R : R2} (p : IxR X R) {x y : V} {H : Hp} {Q : VK} (h : R x y H Q) : wI X x y H Q := fun value slice pins s σ v u I r1 r2 e => p value slice pins s σ H x y v u Q I r1 r2 h e
theorem ix_dict (hu : X.A.units + 1 < cLine) : IxR X (fun x y H Q => ∃ a v, x = .ref a ∧ DGet H a y (some v) ∧ Q v H) := by
  intro value slice pins s σ H x y v u Q I rx ry q hs
  obtain ⟨a, vv, rfl, g, q⟩ := q
  cases rx
  exact tail_any (dict_typeIs I g) PySem.F.slot_dict_getitem.lookup (d_getItem hu I g ry fun w' s3 I3 rw' => ⟨vv, H, I3, rw', q⟩) hs
theorem ixN_eq (n : Nat) (i : Int) : TH.ixN n i = L2.ixN n i := rfl
theorem atI_get {xs : List CV} {vs : List V} (u : RVs X.K r H xs vs) {i : Int} {x : CV} (e : TH.atI xs i = some x) : ∃ v, L2.atI vs i = some v ∧ RV X.K r H x v := by
  unfold TH.atI at e
  rw [Option.bind_eq_some_iff] at e
  obtain ⟨j, e1, e2⟩ := e
  obtain ⟨v, e3, rv⟩ := u.get e2
  refine ⟨v, ?_, rv⟩
  unfold L2.atI
  rw [← u.length, ← ixN_eq, e1]
  exact e3
theorem rvs_ints : ∀ ns : List Int, RVs X.K r H (ns.map CV.int) (ns.map V.int)
  | [] => .nil
  | n :: ns => .cons (.int n) (rvs_ints ns)
theorem ix_ok (hu : X.A.units + 64 < cLine) (q : RH X.prog X.w X.K r h H) {a i : CV} {x y : V} (u : RV X.K r H a x) (v : RV X.K r H i y) (e : ixV a i h = some c) (p : PostE X r H c h Q) : wI X x y H Q := by
  have dct : ∀ {n : Nat} {kvs : List (CV × CV)}, a = .ref n → (h[n]? = some (.dct kvs) ∨ (h[n]? = some (.lkd kvs) ∧ kvs ≠ [])) → kok kvs i = true → dget kvs i = some c → wI X x y H Q := by
    intro n kvs e1 e2 e3 e4
    subst e1
    cases u with | ref z =>
    obtain ⟨H2, ov, i2, st, q2, g, o⟩ := dict_read q e2 z e3 v
    rw [e4] at o
    rcases o with ⟨o, _⟩ | ⟨yy, uu, o1, rfl, rv⟩
    · cases o
    cases o1
    intro value slice pins s σ vv uu2 I r1 r2 hs
    exact thn (ix_dict (by omega) value slice pins s σ H2 _ _ vv uu2 Q (i2 _ _ _ I) r1 r2 ⟨_, uu, rfl, g, p _ r H2 st q2 rv⟩ hs) fun _ _ z => z
  unfold ixV at e
  split at e
  · split at e
    · cases v
      cases u with | tup t us =>
      obtain ⟨vv, e1, rv⟩ := atI_get us e
      exact IxR.w ix_tup ⟨_, _, _, _, rfl, rfl, SqT.of t, e1, p.same q rv⟩
    · cases v
      cases u with | lst g =>
      obtain ⟨vv, e1, rv⟩ := atI_get (rvs_ints _) e
      exact IxR.w ix_list ⟨_, _, _, _, rfl, rfl, g.sq, e1, p.same q rv⟩
    · cases v
      cases u
      split at e
      · rename_i hl
        rw [Option.map_eq_some_iff] at e
        obtain ⟨cc, e1, rfl⟩ := e
        refine IxR.w ix_str ⟨_, _, cc, rfl, rfl, by rw [toS_len, ← lim_eq]; exact hl, ?_, p.same q (.str _)⟩
        simpa [toS, TH.atI, L2.atI, ixN_eq] using e1
      · cases e
    · split at e
      · rename_i xs hm
        cases v
        cases u with | ref z =>
        obtain ⟨vs, g, us⟩ := q.ob _ _ _ hm z
        obtain ⟨vv, e1, rv⟩ := atI_get us e
        exact IxR.w ix_list ⟨_, _, _, _, rfl, rfl, SqL.of g, e1, p.same q rv⟩
      · rename_i xs hm
        cases v
        cases u with | ref z =>
        obtain ⟨o, vs, g, us⟩ := q.ob _ _ _ hm z
        obtain ⟨vv, e1, rv⟩ := atI_get us e
        exact IxR.w ix_list ⟨_, _, _, _, rfl, rfl, .inl (.inr ⟨o, g⟩), e1, p.same q rv⟩
      · rename_i kvs hm
        split at e
        · rename_i hk
          exact dct rfl (.inl hm) hk e
        · cases e
      · rename_i kvs hm
        split at e
        · rename_i hk
          rw [Bool.and_eq_true] at hk
          exact dct rfl (.inr ⟨hm, fun z => by rw [z] at hk; simp at hk⟩) hk.1 e
        · cases e
      · cases e
    · cases e
  · split at e
    · split at e
      · rename_i kvs hm
        split at e
        · rename_i hk
          exact dct rfl (.inl hm) hk e
        · cases e
      · rename_i kvs hm
        split at e
        · rename_i hk
          rw [Bool.and_eq_true] at hk
          exact dct rfl (.inr ⟨hm, fun z => by rw [z] at hk; simp at hk⟩) hk.1 e
        · cases e
      · cases e
    · cases e

/-! ### slices -/
def wS (X : Cx) : V → Option Int → Option Int → Hp → VK → Prop := fun x lo hi H Q => ∀ (pins : List (Addr × Obj)) (s : Shared) (σ : L2.St) (v vl vu : Value) (sl : Addr), Inv X pins σ H s → RelV x v → s.heap.IsSliceOf sl vl vu .none → IsPart vl lo → IsPart vu hi →
    ∃ T id, typeLookup (.type T) "__getitem__" = pure (some (.builtin id)) ∧ s.TypeIs v T ∧ wpAny (model X.prog X.w) X.A (getItem v (.ref sl)) (EP X pins σ Q) X.xe s
theorem slW : SlR X (wS X) := fun pins s σ H x v vl vu lo hi sl Q I r1 hs p1 p2 h => h pins s σ v vl vu sl I r1 hs p1 p2
theorem SlR.w {R : V → Option Int → Option Int → Hp → VK → Prop} (p : SlR X R) {x : V} {lo hi : Option Int} {H : Hp} {Q : VK} (h : R x lo hi H Q) : wS X x lo hi H Q := fun pins s σ v vl vu sl I r1 hs p1 p2 => p pins s σ H x v vl vu lo hi sl Q I r1 hs p1 p2 h
theorem sIx_eq (n d : Nat) (o : Option Int) : TH.sIx n d o = HT.sIx n d o := by
  cases o with
  | none => rfl
  | some i =>
    show (if 0 ≤ i then min i.toNat n else (i + n).toNat) = (if i < 0 then (i + (n : Int)).toNat else min i.toNat n)
    by_cases z : i < 0
    · rw [if_pos z, if_neg (by omega)]
    · rw [if_neg z, if_pos (by omega)]
theorem cut_vs {xs : List CV} {vs : List V} (u : RVs X.K r H xs vs) (lo hi : Option Int) : RVs X.K r H (cut xs lo hi) (cutV vs lo hi) := by
  unfold cut cutV
  rw [← u.length, sIx_eq, sIx_eq]
  exact (u.drop _).take _
theorem rdl_at (q : RH X.prog X.w X.K r h H) {n : Nat} {a : Addr} {xs : List CV} (e : rdl h n = some xs) (z : r[n]? = some a) : ∃ vs, SqL X.K H a vs ∧ RVs X.K r H xs vs ∧ ((∃ o, H a = some (.frz o (.lst vs))) ∨ H a = some (.lst vs)) := by
  unfold rdl at e
  split at e
  · rename_i hm
    cases e
    obtain ⟨vs, g, us⟩ := q.ob _ _ _ hm z
    exact ⟨vs, SqL.of g, us, .inr g⟩
  · rename_i hm
    cases e
    obtain ⟨o, vs, g, us⟩ := q.ob _ _ _ hm z
    exact ⟨vs, .inl (.inr ⟨o, g⟩), us, .inl ⟨o, g⟩⟩
  · cases e
theorem sl_ok (q : RH X.prog X.w X.K r h H) {a : CV} {x : V} {lo hi : Option Int} (u : RV X.K r H a x) (e : slV a lo hi h = some (c, h')) (p : PostE X r H c h' Q) : wS X x lo hi H Q := by
  unfold slV at e
  split at e
  · cases e
    cases u with | @tup _ _ vs t us =>
    refine SlR.w sl_tupA ⟨_, _, rfl, SqT.of t, fun hw => ?_, fun _ => p.tup q (cut_vs us lo hi)⟩
    refine p.same q (.tup t ?_)
    have := cut_vs us lo hi
    have e2 : cutV vs lo hi = vs := by
      unfold cutV
      rw [hw.1, hw.2, List.drop_zero, Nat.sub_zero, List.take_length]
    rwa [e2] at this
  · obtain ⟨rfl, rfl⟩ := newc_eq e
    cases u with | lst g =>
    exact SlR.w sl_list ⟨_, _, rfl, g.sq, p.lst q (cut_vs (rvs_ints _) lo hi)⟩
  · split at e
    · rename_i hl
      cases e
      cases u
      refine SlR.w sl_str ⟨_, rfl, by rw [toS_len, ← lim_eq]; exact hl, ?_⟩
      have e2 : ∀ s : List Nat, cutS (toS s) lo hi = toS (cut s lo hi) := fun s => by
        unfold cutS cut
        rw [toS_len, sIx_eq, sIx_eq]
        simp [toS]
      rw [e2]
      exact p.same q (.str _)
    · cases e
  · split at e
    · rename_i xs hm
      obtain ⟨rfl, rfl⟩ := newc_eq e
      cases u with | ref z =>
      obtain ⟨vs, g, us, _⟩ := rdl_at q hm z
      exact SlR.w sl_list ⟨_, _, rfl, g, p.lst q (cut_vs us lo hi)⟩
    · cases e
  · cases e

/-! ### stores -/
def wSet (X : Cx) : V → V → V → Hp → (Hp → Prop) → Prop := fun o i v H Q => ∀ (pins : List (Addr × Obj)) (s : Shared) (σ : L2.St) (ov iv u : Value), Inv X pins σ H s → RelV o ov → RelV i iv → RelV v u →
    wpAny (model X.prog X.w) X.A (setItem ov iv u) (fun _ s' => ∃ H', Inv X pins σ H' s' ∧ Q H') X.xe s
theorem setW : PSet X (wSet X) := fun pins s σ H o i v ov iv u Q I r1 r2 r3 h => h pins s σ ov iv u I r1 r2 r3
theorem PSet.w {R : TSet} (p : PSet X R) {o i v : V} {H : Hp} {Q : Hp → Prop} (h : R o i v H Q) : wSet X o i v H Q := fun pins s σ ov iv u I r1 r2 r3 => p pins s σ H o i v ov iv u Q I r1 r2 r3 h
theorem put_K {kvs : List (CV × CV)} {es : List (Key × V)} (d : RKV X.K r H kvs es) (k : Key) {x : CV} {v : V} (u : RV X.K r H x v) : RKV X.K r H (dput kvs (ofKey k) x) (putK es k v) := by
  have e1 : (kvs.any fun kv => decide (kv.1 = ofKey k)) = es.any fun kv => decide (kv.1 = k) := by
    induction d with
    | nil => rfl
    | @cons p e ps es hp t ih =>
      simp only [List.any_cons, ih]
      congr 1
      by_cases z : e.1 = k
      · simp [hp.1, z]
      · have : ¬ p.1 = ofKey k := fun y => z (ofKey_inj (hp.1.symm.trans y))
        simp [z, this]
  have e2 : RKV X.K r H (kvs.map fun kv => if kv.1 = ofKey k then (kv.1, x) else kv) (es.map fun kv => if kv.1 = k then (kv.1, v) else kv) := by
    clear e1
    induction d with
    | nil => exact .nil
    | @cons p e ps es hp t ih =>
      rw [List.map_cons, List.map_cons]
      refine .cons ?_ ih
      by_cases z : e.1 = k
      · have y : p.1 = ofKey k := by rw [hp.1, z]
        rw [if_pos z, if_pos y]; exact ⟨hp.1, u⟩
      · have y : ¬ p.1 = ofKey k := fun y => z (ofKey_inj (hp.1.symm.trans y))
        rw [if_neg z, if_neg y]; exact hp
  unfold dput putK
  rw [e1]
  split
  · exact e2
  · exact Paired.snoc d ⟨rfl, u⟩
theorem put_T {kvs : List (CV × CV)} {es : List (List Key × V)} (d : RTV X.K r H kvs es) (k : List Key) {x : CV} {v : V} (u : RV X.K r H x v) : RTV X.K r H (dput kvs (.tup (k.map ofKey)) x) (putK es k v) := by
  have inj : ∀ {p : CV} {j : List Key}, p = .tup (j.map ofKey) → p = .tup (k.map ofKey) → j = k := fun {p j} a b => ofKeys_inj (by have := a.symm.trans b; simpa using this)
  have e1 : (kvs.any fun kv => decide (kv.1 = .tup (k.map ofKey))) = es.any fun kv => decide (kv.1 = k) := by
    induction d with
    | nil => rfl
    | @cons p e ps es hp t ih =>
      simp only [List.any_cons, ih]
      congr 1
      by_cases z : e.1 = k
      · simp [hp.1, z]
      · have : ¬ p.1 = .tup (k.map ofKey) := fun y => z (inj hp.1 y)
        simp [z, this]
  have e2 : RTV X.K r H (kvs.map fun kv => if kv.1 = .tup (k.map ofKey) then (kv.1, x) else kv) (es.map fun kv => if kv.1 = k then (kv.1, v) else kv) := by
    clear e1
    induction d with
    | nil => exact .nil
    | @cons p e ps es hp t ih =>
      rw [List.map_cons, List.map_cons]
      refine .cons ?_ ih
      by_cases z : e.1 = k
      · have y : p.1 = .tup (k.map ofKey) := by rw [hp.1, z]
        rw [if_pos z, if_pos y]; exact ⟨hp.1, u⟩
      · have y : ¬ p.1 = .tup (k.map ofKey) := fun y => z (inj hp.1 y)
        rw [if_neg z, if_neg y]; exact hp
  unfold dput putK
  rw [e1]
  split
  · exact e2
  · exact Paired.snoc d ⟨rfl, u⟩
/-- d[k] = v -/
theorem dict_put (q : RH X.prog X.w X.K r h H) {n : Nat} {a : Addr} {kvs : List (CV × CV)} {k x : CV} {y v : V} (hn : h[n]? = some (.dct kvs)) (ha : r[n]? = some a) (hk : kok kvs k = true) (hl : kvs.length < lim) (u : RV X.K r H k y) (w : RV X.K r H x v) :
    ∃ H2 H3 ov, (∀ (pins : List (Addr × Obj)) (σ : L2.St) (s : Shared), Inv X pins σ H s → Inv X pins σ H2 s) ∧ DPut H2 a y v H3 ∧ Step r H r H3 ∧ RH X.prog X.w X.K r (h.set n (.dct (dput kvs k x))) H3 ∧
      DGet H2 a y ov ∧ OV X r H2 (dget kvs k) ov ∧ Step r H r H2 ∧ RH X.prog X.w X.K r h H2 := by
  obtain ⟨H2, i2, st, q2, d⟩ := dct_use q hn ha hk
  have u2 := u.step q st
  have w2 := w.step q st
  obtain ⟨ov, g, oo⟩ := dget_at q2 u2 (a := a) (kvs := kvs) (d.imp (fun ⟨z, es, e, d⟩ => ⟨z, es, .inl e, d⟩) fun ⟨z, es, e, d⟩ => ⟨z, es, .inl e, d⟩)
  rcases d with ⟨lk, es, e, d⟩ | ⟨tk, es, e, d⟩
  · obtain ⟨k', rfl, rfl⟩ := leaf_key u2 lk
    have nf : ∀ (o : Obj) (v : HO), H2 a ≠ some (.frz o v) := fun o v z => by rw [e] at z; cases z
    have st2 : Step r H2 r (upd H2 a (.dK (putK es k' v))) := Step.write ha nf
    refine ⟨H2, _, ov, i2, .inl ⟨es, k', e, rfl, by rw [← Paired.length d, ← lim_eq]; exact hl, rfl⟩, st.trans st2, q2.write ha nf ⟨_, upd_same, .inl ⟨_, rfl, ?_⟩⟩, g, oo, st, q2⟩
    exact Paired.mapP (put_K d k' w2) fun _ _ z => ⟨z.1, z.2.step q2 st2⟩
  · cases u2 with
    | @tup b xs vs e2 us =>
      obtain ⟨ks, rfl, rfl⟩ := leaf_keys us (by simpa [tupK] using tk)
      have nf : ∀ (o : Obj) (v : HO), H2 a ≠ some (.frz o v) := fun o v z => by rw [e] at z; cases z
      have st2 : Step r H2 r (upd H2 a (.dT (putK es ks v))) := Step.write ha nf
      refine ⟨H2, _, ov, i2, .inr ⟨es, ks, b, e, rfl, e2, by rw [← Paired.length d, ← lim_eq]; exact hl, rfl⟩, st.trans st2, q2.write ha nf ⟨_, upd_same, .inr ⟨_, rfl, ?_⟩⟩, g, oo, st, q2⟩
      exact Paired.mapP (put_T d ks w2) fun _ _ z => ⟨z.1, z.2.step q2 st2⟩
    | _ => simp [tupK] at tk
theorem set_ok (hu : X.A.units + 64 < cLine) (q : RH X.prog X.w X.K r h H) {a i x : CV} {o y v : V} (u : RV X.K r H a o) (u2 : RV X.K r H i y) (u3 : RV X.K r H x v) (e : setV a i x h = some h') {Q : Hp → Prop}
    (p : ∀ H', Step r H r H' → RH X.prog X.w X.K r h' H' → Q H') : wSet X o y v H Q := by
  unfold setV at e
  split at e
  · cases u with | ref z =>
    split at e
    · rename_i xs hm
      split at e
      · cases u2
        rw [Option.map_eq_some_iff] at e
        obtain ⟨j, e1, rfl⟩ := e
        obtain ⟨vs, g, us⟩ := q.ob _ _ _ hm z
        have nf : ∀ (o : Obj) (v : HO), H _ ≠ some (.frz o v) := fun o v y => by rw [g] at y; cases y
        refine PSet.w set_list ⟨_, vs, _, j, rfl, rfl, g, by rw [← us.length]; exact e1, p _ (Step.write z nf) (q.write z nf ⟨_, upd_same, ?_⟩)⟩
        exact (us.step q (Step.write z nf)).set j (u3.step q (Step.write z nf))
      · cases e
    · rename_i kvs hm
      split at e
      · rename_i hk
        rw [Bool.and_eq_true, decide_eq_true_eq] at hk
        cases e
        obtain ⟨H2, H3, _, i2, g, st, q3, _⟩ := dict_put q hm z hk.1 hk.2 u2 u3
        intro pins s σ ov iv uu I r1 r2 r3
        cases r1
        exact d_setItem (by omega) (i2 _ _ _ I) g r2 r3 fun s4 I4 => ⟨H3, I4, p H3 st q3⟩
      · cases e
    · cases e
  · cases e
end
end TH

/-! Built-ins by values. -/
namespace TH
open PySem PySem.Spec PyProof.Rows L2
section
variable {X : Cx} {r : Ren} {H : Hp} {h h' : CH} {c : CV} {Q : VK}
theorem bools_vs : ∀ {xs : List CV} {vs : List V} {bs : List Bool}, RVs X.K r H xs vs → bools? xs = some bs → vs = bs.map V.bl
  | [], _, _, .nil, e => by cases e; rfl
  | x :: xs, _, bs, .cons u t, e => by
    cases x <;> simp only [bools?, Option.map_eq_some_iff, reduceCtorEq] at e
    obtain ⟨bs', e, rfl⟩ := e
    cases u
    rw [bools_vs t e]; rfl
theorem ints_vs : ∀ {xs : List CV} {vs : List V} {bs : List Int}, RVs X.K r H xs vs → ints? xs = some bs → vs = bs.map V.int
  | [], _, _, .nil, e => by cases e; rfl
  | x :: xs, _, bs, .cons u t, e => by
    cases x <;> simp only [ints?, Option.map_eq_some_iff, reduceCtorEq] at e
    obtain ⟨bs', e, rfl⟩ := e
    cases u
    rw [ints_vs t e]; rfl
theorem strs_vs : ∀ {xs : List CV} {vs : List V} {bs : List (List Nat)}, RVs X.K r H xs vs → strs? xs = some bs → vs = (bs.map toS).map V.str
  | [], _, _, .nil, e => by cases e; rfl
  | x :: xs, _, bs, .cons u t, e => by
    cases x <;> simp only [strs?, Option.map_eq_some_iff, reduceCtorEq] at e
    obtain ⟨bs', e, rfl⟩ := e
    cases u
    rw [strs_vs t e]; rfl
theorem RVs.one {x : CV} {vs : List V} (u : RVs X.K r H [x] vs) : ∃ v, vs = [v] ∧ RV X.K r H x v := by
  cases u with | cons u t => cases t; exact ⟨_, rfl, u⟩
theorem RVs.two {x y : CV} {vs : List V} (u : RVs X.K r H [x, y] vs) : ∃ v w, vs = [v, w] ∧ RV X.K r H x v ∧ RV X.K r H y w := by
  cases u with | cons u t => obtain ⟨w, rfl, u2⟩ := t.one; exact ⟨_, _, rfl, u, u2⟩
/-- a list or a tuple -/
theorem items_at (q : RH X.prog X.w X.K r h H) {a : CV} {v : V} {xs : List CV} (u : RV X.K r H a v) (e : items h a = some xs) : ∃ p vs, v = .ref p ∧ RVs X.K r H xs vs ∧ ((SqL X.K H p vs ∧ ∃ n, a = .ref n) ∨ (SqT X.K H p vs ∧ a = .tup xs)) := by
  unfold items at e
  split at e
  · cases e
    cases u with | tup t us => exact ⟨_, _, rfl, us, .inr ⟨SqT.of t, rfl⟩⟩
  · cases u with | ref z =>
    obtain ⟨vs, g, us, _⟩ := rdl_at q e z
    exact ⟨_, vs, rfl, us, .inl ⟨g, _, rfl⟩⟩
  · cases e

/-! ### sorted -/
def Rpd (K : PySem.W.Frag) (r : Ren) (H : Hp) (v : Value) (x : CV) : Prop := ∃ u, RelV u v ∧ RV K r H x u
theorem each_of : ∀ {xs : List CV} {vs : List V} {us : List Value}, RVs X.K r H xs vs → Vals vs us → PySem.W.EachIs (Rpd X.K r H) us xs
  | _, _, _, .nil, .nil => .nil
  | _, _, _, .cons a t, .cons b u => .cons ⟨_, b, a⟩ (each_of t u)
theorem of_each : ∀ {xs : List CV} {us : List Value}, PySem.W.EachIs (Rpd X.K r H) us xs → ∃ vs, RVs X.K r H xs vs ∧ Vals vs us
  | _, _, .nil => ⟨[], .nil, .nil⟩
  | _, _, .cons ⟨v, a, b⟩ t => by
    obtain ⟨vs, c, d⟩ := of_each t
    exact ⟨v :: vs, .cons b c, .cons a d⟩
mutual
theorem clike_pd : ∀ a b : CV, nref a = true → nref b = true → PySem.W.alike (pd a) (pd b) = clike a b
  | .non, b, _, hb => by cases b <;> first | rfl | (simp [nref] at hb)
  | .bl _, b, _, hb => by cases b <;> first | rfl | (simp [nref] at hb)
  | .int _, b, _, hb => by cases b <;> first | rfl | (simp [nref] at hb)
  | .str x, b, _, hb => by cases b <;> first | rfl | (simp [nref] at hb)
  | .tup xs, b, ha, hb => by
    cases b with
    | tup ys => simp only [pd, PySem.W.alike, clike]; exact clikes_pds xs ys (by simpa [nref] using ha) (by simpa [nref] using hb)
    | ref _ => simp [nref] at hb
    | _ => rfl
  | .lst xs, b, ha, hb => by
    cases b with
    | lst ys => simp only [pd, PySem.W.alike, clike]; exact clikes_pds xs ys (by simpa [nref] using ha) (by simpa [nref] using hb)
    | ref _ => simp [nref] at hb
    | _ => rfl
  | .ref _, _, ha, _ => by simp [nref] at ha
theorem clikes_pds : ∀ a b : List CV, nrefs a = true → nrefs b = true → PySem.W.alikeAll (pds a) (pds b) = clikes a b
  | [], [], _, _ => by simp [pds, PySem.W.alikeAll, clikes]
  | [], _ :: _, _, _ => by simp [pds, PySem.W.alikeAll, clikes]
  | _ :: _, [], _, _ => by simp [pds, PySem.W.alikeAll, clikes]
  | a :: as, b :: bs, ha, hb => by
    simp only [nrefs, Bool.and_eq_true] at ha hb
    simp only [pds, PySem.W.alikeAll, clikes, clike_pd a b ha.1 hb.1, clikes_pds as bs ha.2 hb.2]
end
theorem decide_any {p q : Prop} {a : Decidable p} {b : Decidable q} (e : p = q) : @decide p a = @decide q b := by
  subst e
  rw [Subsingleton.elim a b]
theorem slt_eq : ∀ x y : List Nat, decide (x < y) = slt x y
  | [], [] => by simp [slt]
  | [], _ :: _ => by simp [slt]
  | _ :: _, [] => by simp [slt]
  | a :: x, b :: y => by
    have ih := slt_eq x y
    simp only [slt]
    by_cases e : a = b
    · subst e
      rw [if_pos rfl, ← ih]
      simp
    · rw [if_neg e]
      simp [List.cons_lt_cons_iff, e]
mutual
theorem clt_pd : ∀ a b : CV, nref a = true → nref b = true → clike a b = true → PySem.W.dataLt (pd a) (pd b) = clt a b
  | .non, b, _, _, hl => by
    cases b with
    | non => rfl
    | _ => simp [clike] at hl
  | .bl x, b, _, _, hl => by
    cases b with
    | bl y =>
      show PySem.W.dataLt (.bool x) (.bool y) = (!x && y)
      rw [PySem.W.dataLt_bool]
      cases x <;> cases y <;> rfl
    | _ => simp [clike] at hl
  | .int x, b, _, _, hl => by
    cases b with
    | int y => exact PySem.W.dataLt_int x y
    | _ => simp [clike] at hl
  | .str x, b, _, _, hl => by
    cases b with
    | str y =>
      show PySem.W.dataLt (.str (toS x)) (.str (toS y)) = slt x y
      rw [PySem.W.dataLt_str, ← slt_eq]
      exact decide_any (by simp [toS])
    | _ => simp [clike] at hl
  | .tup xs, b, ha, hb, hl => by
    cases b with
    | tup ys =>
      show PySem.W.dataLt (.tuple (pds xs)) (.tuple (pds ys)) = clts xs ys
      rw [PySem.W.dataLt_tuple]
      exact clts_pds xs ys (by simpa [nref] using ha) (by simpa [nref] using hb) (by simpa [clike] using hl)
    | _ => simp [clike] at hl
  | .lst xs, b, ha, hb, hl => by
    cases b with
    | lst ys =>
      show PySem.W.dataLt (.list (pds xs)) (.list (pds ys)) = clts xs ys
      rw [PySem.W.dataLt_list]
      exact clts_pds xs ys (by simpa [nref] using ha) (by simpa [nref] using hb) (by simpa [clike] using hl)
    | _ => simp [clike] at hl
  | .ref _, _, ha, _, _ => by simp [nref] at ha
theorem clts_pds : ∀ a b : List CV, nrefs a = true → nrefs b = true → clikes a b = true → PyProof.Rows.lexLt itemOrd (PySem.W.keyToksAll (pds a)) (PySem.W.keyToksAll (pds b)) = clts a b
  | [], [], _, _, _ => lex_irrefl _
  | [], b :: bs, _, _, _ => by
    show PySem.W.rowLt [] (pd b :: pds bs) = true
    unfold PySem.W.rowLt
    simp only [PySem.W.keyToksAll]
    rw [PySem.W.lex_atom (by simp)]
    rfl
  | a :: as, [], _, _, _ => by
    show PySem.W.rowLt (pd a :: pds as) [] = false
    unfold PySem.W.rowLt
    simp only [PySem.W.keyToksAll]
    rw [PySem.W.lex_atom (by simp)]
    rfl
  | a :: as, b :: bs, ha, hb, hl => by
    simp only [nrefs, Bool.and_eq_true] at ha hb
    simp only [clikes, Bool.and_eq_true] at hl
    have h1 : PySem.W.alike (pd a) (pd b) = true := (clike_pd a b ha.1 hb.1).trans hl.1
    show PyProof.Rows.lexLt itemOrd (PySem.W.keyToksAll (pd a :: pds as)) (PySem.W.keyToksAll (pd b :: pds bs)) = if ceq a b = true then clts as bs else clt a b
    rw [PySem.W.dataLt_cons h1, ceq_pd a b ha.1 hb.1, clts_pds as bs ha.2 hb.2 hl.2, clt_pd a b ha.1 hb.1 hl.1]
end
end
end TH

/-! sorted of anything that is walked; sets of texts. -/
namespace TH
open PySem PySem.Spec PyProof.Rows L2
theorem nref_all : ∀ {xs : List CV}, nrefs xs = true → ∀ x ∈ xs, nref x = true
  | [], _, _, hx => nomatch hx
  | a :: xs, e, x, hx => by
    simp only [nrefs, Bool.and_eq_true] at e
    rcases List.mem_cons.mp hx with z | z
    · rw [z]; exact e.1
    · exact nref_all e.2 x z
theorem depth_mem : ∀ {xs : List CV} {x : CV}, x ∈ xs → (pd x).depth ≤ PyData.depthAll (pds xs)
  | [], _, hx => nomatch hx
  | a :: xs, x, hx => by
    simp only [pds, PyData.depthAll]
    rcases List.mem_cons.mp hx with z | z
    · rw [z]; exact Nat.le_max_left _ _
    · exact Nat.le_trans (depth_mem z) (Nat.le_max_right _ _)
theorem sortable_of {xs : List CV} (hn : nrefs xs = true) (e : sortable xs = true) : PySem.W.AllAlike (xs.map pd) ∧ PySem.W.Sortable (xs.map pd) ∧ (∀ a ∈ xs, ∀ b ∈ xs, clike a b = true) := by
  unfold sortable at e
  simp only [Bool.and_eq_true, Bool.or_eq_true, List.all_eq_true] at e
  obtain ⟨e1, e2⟩ := e
  refine ⟨fun d hd d' hd' => ?_, ?_, e1⟩
  · obtain ⟨a, ha, rfl⟩ := List.mem_map.mp hd
    obtain ⟨b, hb, rfl⟩ := List.mem_map.mp hd'
    rw [clike_pd a b (nref_all hn a ha) (nref_all hn b hb)]
    exact e1 a ha b hb
  · rcases e2 with e2 | e2
    · refine .inl fun d hd => ?_
      obtain ⟨a, ha, rfl⟩ := List.mem_map.mp hd
      have := e2 a ha
      cases a with
      | tup ys =>
        cases ys with
        | nil => simp at this
        | cons y ys => exact ⟨pd y, pds ys, rfl⟩
      | _ => simp at this
    · refine .inr fun d hd => ?_
      obtain ⟨a, ha, rfl⟩ := List.mem_map.mp hd
      have := e2 a ha
      have hr := nref_all hn a ha
      cases a <;> first | (simp at this; done) | (simp [nref] at hr; done) | (simp [pd])
section
variable {X : Cx} {r : Ren} {H : Hp}
/-- a call of sorted, from what the walk gathers -/
theorem srt_collB {pins : List (Addr × Obj)} {σ : L2.St} {s : Shared} {x : Value} {Q : VK} (Bs : List CV → Prop) (hu : X.A.units + 70 < cLine) (I : Inv X pins σ H s) (hB : ∀ bs, Bs bs → nrefs bs = true ∧ PyData.depthAll (pds bs) ≤ dep ∧ sortable bs = true ∧ bs.length ≤ sizeLine)
    (coll : ∀ R : List Value → Shared → Prop, (∀ s' vs bs, Bs bs → (∀ b o, s.heap.get? b = some o → s'.heap.get? b = some o) → s'.gens = s.gens → s'.os = s.os → PySem.W.EachIs (Rpd X.K r H) vs bs → PySem.W.EachIs (fun v b => ∃ as, Reads s'.heap v (pd b) as) vs bs → R vs s') → wpAny (model X.prog X.w) X.A.in1 (collect x) R X.xe s)
    (post : ∀ bs p ws, Bs bs → H p = none → RVs X.K r H (bs.mergeSort cle) ws → Q (.ref p) (upd H p (.lst ws))) : wpAny (model X.prog X.w) X.A (call (.builtin "sorted") [x]) (EP X pins σ Q) X.xe s := by
  refine Calls.call_function_entry PyProof.Rows.kind_sorted PyProof.Rows.plain_sorted PyProof.Rows.entry_sorted (PyProof.Rows.args_sorted1 _) ?_
  unfold Builtin.«sorted»
  refine wpAny_bind (m := checkCount "sorted" 1 1 _) (wpAny_pure (wpAny_bind (coll _ fun s1 vs bs hbs k1 g1 o1 e1 er => ?_)))
  obtain ⟨hn, hd, hs, hz⟩ := hB bs hbs
  obtain ⟨al, so, lk⟩ := sortable_of hn hs
  have hvl : vs.length = bs.length := e1.length
  refine wpAny_bind (wpAny_newList (?_ : wpAny _ _ _ _ _ { s1 with heap := s1.heap.push (seqObj "list" vs.toArray 0) }) (by rw [hvl]; exact hz))
  have hL : (s1.heap.push (seqObj "list" vs.toArray 0)).get? s1.heap.objs.size = some (seqObj "list" vs.toArray 0) := Heap.get?_push_size _ rfl
  have kp : ∀ b o, s1.heap.get? b = some o → (PySem.W.sortingHeap (s1.heap.push (seqObj "list" vs.toArray 0)) s1.heap.objs.size vs).get? b = some o := fun b o e => PySem.W.sortingHeap_old (Nat.ne_of_lt (Heap.lt_size e)) (Heap.get?_push_of_some _ e)
  have er2 : PySem.W.EachIs (fun v b => ∃ as, Reads (PySem.W.sortingHeap (s1.heap.push (seqObj "list" vs.toArray 0)) s1.heap.objs.size vs) v (pd b) as) vs bs := er.mono fun _ _ ⟨as, z⟩ => ⟨as, PyProof.Rows.Reads.keeps kp z⟩
  refine wpAny_bind (wpAny_holding (wpAny_call_entry PyProof.Rows.slot_list_sort ⟨_, hL, rfl⟩ PyProof.Rows.entry_list_sort (PySem.W.list_sort_vals (s := { s1 with heap := s1.heap.push (seqObj "list" vs.toArray 0) }) (κ := PySem.W.dataKind (PySem.W.sortingHeap (s1.heap.push (seqObj "list" vs.toArray 0)) s1.heap.objs.size vs) (bs.map pd)) hL
    (PySem.W.SortsAt.data (s := { s1 with heap := PySem.W.sortingHeap (s1.heap.push (seqObj "list" vs.toArray 0)) s1.heap.objs.size vs }) (PySem.W.each_map (R := fun v d => ∃ as, Reads (PySem.W.sortingHeap (s1.heap.push (seqObj "list" vs.toArray 0)) s1.heap.objs.size vs) v d as) pd er2) al so (PySem.W.bound_map fun b hb => ?_)) (by rw [hvl]; exact hz) ⟨_, rfl, ?_⟩) (PyProof.Rows.args_list_sort _)))
  · have := depth_mem hb
    have h20 : dep = 20 := rfl
    show X.A.units + 2 + _ < _
    omega
  · have eo := PySem.W.sortVals_data false e1 er2 al
    rw [show bs.mergeSort (PySem.W.dataLe false pd) = bs.mergeSort cle from PySem.W.sort_congr fun a ha b hb => by
      rw [PySem.W.dataLe_eq]
      show (!PySem.W.dataLt (pd b) (pd a)) = !clt b a
      rw [clt_pd b a (nref_all hn b hb) (nref_all hn a ha) (lk b hb a ha)]] at eo
    have ho := PySem.W.sortVals_length (κ := PySem.W.dataKind (PySem.W.sortingHeap (s1.heap.push (seqObj "list" vs.toArray 0)) s1.heap.objs.size vs) (bs.map pd)) (vs := vs) false rfl
    obtain ⟨ws, w1, w2⟩ := of_each eo
    generalize PySem.W.sortVals (PySem.W.dataKind (PySem.W.sortingHeap (s1.heap.push (seqObj "list" vs.toArray 0)) s1.heap.objs.size vs) (bs.map pd)) false vs vs = out at eo ho w2 ⊢
    obtain ⟨c, hc⟩ := PyProof.Rows.sortedHeap_at (vs := vs) (out := out.toArray) hL
    have I1 : Inv X pins σ H { s with heap := s1.heap, gens := s1.gens, drawn := s1.drawn, toks := s1.toks } := I.call (ch := []) (Un.kept k1) (I.hok.kept k1) (by rw [g1]; exact I.bare) (fun _ z => nomatch z)
    have hp : H s1.heap.objs.size = none := I1.hok.fresh (Nat.le_refl _)
    have k2 : ∀ b o, s1.heap.get? b = some o → (sortedHeap (s1.heap.push (seqObj "list" vs.toArray 0)) s1.heap.objs.size vs out.toArray).get? b = some o := fun b o e1 => by
      have hlt := Heap.lt_size e1
      rw [PyProof.Rows.sortedHeap_old (Nat.ne_of_lt hlt) (by rw [size_push']; exact Nat.lt_succ_of_lt hlt)]
      exact Heap.get?_push_of_some _ e1
    have hl2 : ws.length ≤ sizeLine := by rw [w2.length, ho, hvl]; exact hz
    have J0 := I1.call (ch := []) (H' := upd H s1.heap.objs.size (.lst ws)) (g' := s1.gens) (d' := s1.drawn) (t' := s1.toks) (h' := sortedHeap (s1.heap.push (seqObj "list" vs.toArray 0)) s1.heap.objs.size vs out.toArray) (Un.laid k2 (Nat.le_refl _) hp) (I1.hok.laid k2 (Nat.le_refl _) ⟨hl2, out, c, w2, hc⟩) (by rw [g1]; exact I.bare) (fun _ z => nomatch z)
    have J : Inv X pins σ (upd H s1.heap.objs.size (.lst ws)) { s with heap := sortedHeap (s1.heap.push (seqObj "list" vs.toArray 0)) s1.heap.objs.size vs out.toArray, gens := s1.gens, drawn := s1.drawn, toks := s1.toks } := J0
    have es : ({ s1 with heap := sortedHeap (s1.heap.push (seqObj "list" vs.toArray 0)) s1.heap.objs.size vs out.toArray } : Shared) = { s with heap := sortedHeap (s1.heap.push (seqObj "list" vs.toArray 0)) s1.heap.objs.size vs out.toArray, gens := s1.gens, drawn := s1.drawn, toks := s1.toks } := by
      cases s1; cases s; cases o1; rfl
    refine wpAny_pure ⟨_, rfl, ?_⟩
    show EP X pins σ Q _ _
    rw [es]
    exact ⟨.ref _, _, J, rfl, post bs _ ws hbs hp w1⟩
theorem srt_coll {pins : List (Addr × Obj)} {σ : L2.St} {s : Shared} {x : Value} {bs : List CV} {Q : VK} (hu : X.A.units + 70 < cLine) (I : Inv X pins σ H s) (hn : nrefs bs = true) (hd : PyData.depthAll (pds bs) ≤ dep) (hs : sortable bs = true) (hz : bs.length ≤ sizeLine)
    (coll : ∀ R : List Value → Shared → Prop, (∀ s' vs, (∀ b o, s.heap.get? b = some o → s'.heap.get? b = some o) → s'.gens = s.gens → s'.os = s.os → PySem.W.EachIs (Rpd X.K r H) vs bs → PySem.W.EachIs (fun v b => ∃ as, Reads s'.heap v (pd b) as) vs bs → R vs s') → wpAny (model X.prog X.w) X.A.in1 (collect x) R X.xe s)
    (post : ∀ p ws, H p = none → RVs X.K r H (bs.mergeSort cle) ws → Q (.ref p) (upd H p (.lst ws))) : wpAny (model X.prog X.w) X.A (call (.builtin "sorted") [x]) (EP X pins σ Q) X.xe s :=
  srt_collB (· = bs) hu I (fun b e => by rw [e]; exact ⟨hn, hd, hs, hz⟩) (fun R hR => coll R fun s' vs k g o e er => hR s' vs bs rfl k g o e er) fun b p ws e hp w => by
    rw [e] at w
    exact post p ws hp w
theorem each_at {α β : Type} {R : α → β → Prop} : ∀ {vs : List α} {bs : List β}, vs.length = bs.length → (∀ (j : Nat) (v : α) (b : β), vs[j]? = some v → bs[j]? = some b → R v b) → PySem.W.EachIs R vs bs
  | [], [], _, _ => .nil
  | [], _ :: _, hl, _ => by simp at hl
  | _ :: _, [], hl, _ => by simp at hl
  | v :: vs, b :: bs, hl, g => .cons (g 0 v b rfl rfl) (each_at (by simpa using hl) fun j x y e1 e2 => g (j + 1) x y (by simpa using e1) (by simpa using e2))
theorem paired_at {α β : Type} {R : α → β → Prop} : ∀ {xs : List α} {ys : List β}, Paired R xs ys → ∀ {j : Nat} {x : α} {y : β}, xs[j]? = some x → ys[j]? = some y → R x y
  | _, _, .nil, _, _, _, e, _ => by simp at e
  | _, _, .cons h t, 0, _, _, e1, e2 => by simp at e1 e2; subst e1 e2; exact h
  | _, _, .cons h t, j + 1, _, _, e1, e2 => paired_at t (j := j) (by simpa using e1) (by simpa using e2)
theorem toS_list (x : Str) : toS x.cps.toList = x := by cases x; simp [toS]
/-- a key, read -/
theorem rv_key {K : PySem.W.Frag} (k : Key) : RV K r H (ofKey k) (kV k) := by
  cases k with
  | inl i => exact .int i
  | inr x =>
    have := RV.str (K := K) (r := r) (H := H) x.cps.toList
    rw [toS_list] at this
    exact this
theorem key_rel {k : Key} {v : Value} (e : keyIs k v = true) : RelV (kV k) v ∧ ∀ h : Heap, ∃ as, Reads h v (pd (ofKey k)) as := by
  rcases keyIs_shape e with ⟨i, t, rfl, rfl⟩ | ⟨x, t, rfl, rfl⟩
  · exact ⟨⟨t, rfl⟩, fun h => ⟨[], .int i t⟩⟩
  · refine ⟨⟨t, rfl⟩, fun h => ⟨[], ?_⟩⟩
    show Reads h (.str x t) (.str (toS x.cps.toList)) []
    rw [toS_list]
    exact .str x t
theorem rvs_keys {K : PySem.W.Frag} : ∀ ks : List Key, RVs K r H (ks.map ofKey) (ks.map kV)
  | [] => .nil
  | k :: ks => .cons (rv_key k) (rvs_keys ks)
theorem nref_key (k : Key) : nref (ofKey k) = true := by cases k <;> rfl
theorem nrefs_of {xs : List CV} (g : ∀ x ∈ xs, nref x = true) : nrefs xs = true := by
  induction xs with
  | nil => rfl
  | cons x xs ih => simp only [nrefs, g x List.mem_cons_self, ih fun y hy => g y (List.mem_cons_of_mem _ hy), Bool.and_self]
theorem depths_of {xs : List CV} {n : Nat} (g : ∀ x ∈ xs, (pd x).depth ≤ n) : PyData.depthAll (pds xs) ≤ n := by
  induction xs with
  | nil => exact Nat.zero_le _
  | cons x xs ih =>
    simp only [pds, PyData.depthAll]
    exact Nat.max_le.mpr ⟨g x List.mem_cons_self, ih fun y hy => g y (List.mem_cons_of_mem _ hy)⟩
theorem dep_key (k : Key) : (pd (ofKey k)).depth ≤ 0 := by cases k <;> exact Nat.le_refl _
theorem dp_keys : ∀ k : List Key, DpAll X.K H (k.map kV) (pds (k.map ofKey))
  | [] => .nil
  | .inl i :: k => .cons (.int i) (dp_keys k)
  | .inr x :: k => by
    refine .cons (?_ : Dp X.K H (.str x) (.str (toS x.cps.toList))) (dp_keys k)
    rw [toS_list]
    exact .str x
/-- the names of a dict, sorted -/
theorem sorted_dct (hc : X.calm = true) (hu : X.A.units + 70 < cLine) {a : Addr} {kvs : List (CV × CV)} {u : HO} {Q : VK} (ha : H a = some u) (d : RD X.K r H kvs u) (hs : sortable (kvs.map (·.1)) = true)
    (post : ∀ p ws, H p = none → RVs X.K r H ((kvs.map (·.1)).mergeSort cle) ws → Q (.ref p) (upd H p (.lst ws))) : wC X (.builtin "sorted") [.ref a] H Q := by
  intro pins s σ us I rv
  obtain ⟨u1, rfl, ru⟩ := vals1 rv
  cases ru
  rcases d with ⟨es, rfl, d⟩ | ⟨es, rfl, d⟩
  · obtain ⟨z, lo, vs, rel, dd⟩ := dk_rd I.hok (.inl ha)
    obtain ⟨ep, hat⟩ := dd.dictAt
    have e1 : kvs.length = es.length := Paired.length d
    have e2 : es.length = vs.length := rel.length
    have ek : vs.map (·.1) = es.map (·.1) := rel.keys.symm
    have kof : ∀ x ∈ kvs.map (·.1), ∃ k : Key, x = ofKey k := fun x hx => by
      obtain ⟨p, hp, rfl⟩ := List.mem_map.mp hx
      obtain ⟨j, hj⟩ := List.getElem?_of_mem hp
      have hl : j < es.length := by rw [← e1]; exact (List.getElem?_eq_some_iff.mp hj).1
      exact ⟨_, (paired_at d hj (List.getElem?_eq_getElem hl)).1⟩
    refine srt_coll hu I (nrefs_of fun x hx => by obtain ⟨k, rfl⟩ := kof x hx; exact nref_key k) (depths_of fun x hx => by obtain ⟨k, rfl⟩ := kof x hx; exact Nat.le_trans (dep_key k) (Nat.zero_le _)) hs (by rw [List.length_map, e1]; exact z) (fun R hR => ?_) post
    refine PySem.W.kdu_collect (A := X.A.in1) (PySem.W.kdl_dict (knd := mixKind X.prog X.w) (kvs := vs) (ep := ep) lo) (I.ok.hd hc) hat (by omega) fun h' tk acc hk hacc => ?_
    have at' : ∀ (j : Nat) (v : Value) (b : CV), acc.toList[j]? = some v → (kvs.map (·.1))[j]? = some b → ∃ k : Key, b = ofKey k ∧ keyIs k v = true := fun j v b h1 h2 => by
      obtain ⟨k, x, e3, e4⟩ := hacc.2 j v (by rw [← Array.getElem?_toList]; exact h1)
      refine ⟨k, ?_, e4⟩
      rw [List.getElem?_map, Option.map_eq_some_iff] at h2
      obtain ⟨p, hp, rfl⟩ := h2
      have hl : j < es.length := by rw [← e1]; exact (List.getElem?_eq_some_iff.mp hp).1
      have h5 := (paired_at d hp (List.getElem?_eq_getElem hl)).1
      have h6 : (es.map (·.1))[j]? = some k := by rw [← ek, List.getElem?_map, e3]; rfl
      rw [List.getElem?_map, List.getElem?_eq_getElem hl] at h6
      cases h6
      exact h5
    have hal : acc.toList.length = (kvs.map (·.1)).length := by rw [Array.length_toList, hacc.1, List.length_map]; omega
    refine hR { s with heap := h', toks := tk } acc.toList hk rfl rfl (each_at hal fun j v b h1 h2 => ?_) (each_at hal fun j v b h1 h2 => ?_)
    · obtain ⟨k, rfl, e⟩ := at' j v b h1 h2
      exact ⟨kV k, (key_rel e).1, rv_key k⟩
    · obtain ⟨k, rfl, e⟩ := at' j v b h1 h2
      exact (key_rel e).2 h'
  · obtain ⟨z, hz, ks, pr, o, es', ep, ho, hx, hdt, he, hn⟩ := (show ObjOk X.prog X.w H s.heap a (.dT es) from I.hok a _ ha)
    have l1 : es'.size = ks.length := size_of_entries he
    have l2 : es.length = ks.length := Paired.length pr
    have e1 : kvs.length = es.length := Paired.length d
    have ik := isKeys_of pr
    have kof : ∀ x ∈ kvs.map (·.1), ∃ k : List Key, x = .tup (k.map ofKey) := fun x hx => by
      obtain ⟨p, hp, rfl⟩ := List.mem_map.mp hx
      obtain ⟨j, hj⟩ := List.getElem?_of_mem hp
      have hl : j < es.length := by rw [← e1]; exact (List.getElem?_eq_some_iff.mp hj).1
      exact ⟨_, (paired_at d hj (List.getElem?_eq_getElem hl)).1⟩
    have nk : ∀ k : List Key, nrefs (k.map ofKey) = true := fun k => nrefs_of fun x hx => by obtain ⟨k, _, rfl⟩ := List.mem_map.mp hx; exact nref_key k
    have dk : ∀ k : List Key, PyData.depthAll (pds (k.map ofKey)) ≤ 0 := fun k => depths_of fun x hx => by obtain ⟨k, _, rfl⟩ := List.mem_map.mp hx; exact dep_key k
    refine srt_coll hu I (nrefs_of fun x hx => by obtain ⟨k, rfl⟩ := kof x hx; exact nk k) (depths_of (n := dep) fun x hx => by
      obtain ⟨k, rfl⟩ := kof x hx
      have := dk k
      have h20 : dep = 20 := rfl
      simp only [pd, PyData.depth]
      omega) hs (by rw [List.length_map, e1]; exact z) (fun R hR => ?_) post
    refine PySem.W.kdu_collect (A := X.A.in1) (kdl_raw hz hx hdt) (I.ok.hd hc) ho (by omega) fun h' tk acc hk hacc => ?_
    have I1 : Inv X pins σ H { s with heap := h', toks := tk } := I.kept hk
    have at' : ∀ (j : Nat) (v : Value) (b : CV), acc.toList[j]? = some v → (kvs.map (·.1))[j]? = some b → ∃ (k : List Key) (p : Addr), b = .tup (k.map ofKey) ∧ v = .ref p ∧ H p = some (.tup (k.map kV)) := fun j v b h1 h2 => by
      obtain ⟨en, hen, hv⟩ := hacc.2 j v (by rw [← Array.getElem?_toList]; exact h1)
      rw [List.getElem?_map, Option.map_eq_some_iff] at h2
      obtain ⟨p, hp, rfl⟩ := h2
      have hl : j < es.length := by rw [← e1]; exact (List.getElem?_eq_some_iff.mp hp).1
      have h5 := (paired_at d hp (List.getElem?_eq_getElem hl)).1
      have hl2 : j < ks.length := by omega
      have qe := entry_at he j
      rw [hen, List.getElem?_eq_getElem hl2] at qe
      have e2 : en = entryOfKey (tupleKind (mixKind X.prog X.w)) ks[j] := Option.some.inj qe
      have h7 := paired_at ik (List.getElem?_eq_getElem hl) (by rw [List.getElem?_map, List.getElem?_eq_getElem hl2]; rfl)
      refine ⟨es[j].1, ks[j].2.1, h5, ?_, h7⟩
      rw [hv, e2]
      rfl
    have hal : acc.toList.length = (kvs.map (·.1)).length := by rw [Array.length_toList, hacc.1, List.length_map]; omega
    refine hR { s with heap := h', toks := tk } acc.toList hk rfl rfl (each_at hal fun j v b h1 h2 => ?_) (each_at hal fun j v b h1 h2 => ?_)
    · obtain ⟨k, p, rfl, rfl, e⟩ := at' j v b h1 h2
      exact ⟨.ref p, rfl, .tup e (rvs_keys k)⟩
    · obtain ⟨k, p, rfl, rfl, e⟩ := at' j v b h1 h2
      refine Dp.reads I1 (pd (.tup (k.map ofKey))) (.ref p) (.ref p) (.tup (SqT.of e) ?_) rfl
      have := dp_keys (X := X) (H := H) k
      exact this
theorem each_reads {pins : List (Addr × Obj)} {σ : L2.St} {s : Shared} (I : Inv X pins σ H s) : ∀ {xs : List CV} {vs : List V} {us : List Value}, DpAll X.K H vs (pds xs) → Vals vs us → PySem.W.EachIs (fun v b => ∃ as, Reads s.heap v (pd b) as) us xs
  | [], _, _, d, r => by cases d; cases r; exact .nil
  | x :: xs, _, _, d, r => by
    cases d with
    | cons d1 d2 =>
      cases r with
      | cons r1 r2 => exact .cons (Dp.reads I _ _ _ d1 r1) (each_reads I d2 r2)
/-- a list's, a tuple's items, sorted -/
theorem sorted_seq {h : CH} {a : Addr} {xs : List CV} {us : List V} {Q : VK} (hu : X.A.units + 70 < cLine) (q : RH X.prog X.w X.K r h H) (g : SqL X.K H a us ∨ SqT X.K H a us) (rs : RVs X.K r H xs us) (e1 : dens h dep xs = some xs) (e2 : sortable xs = true)
    (post : ∀ p ws, H p = none → RVs X.K r H (xs.mergeSort cle) ws → Q (.ref p) (upd H p (.lst ws))) : wC X (.builtin "sorted") [.ref a] H Q := by
  intro pins s σ vs I rv
  obtain ⟨u1, rfl, ru⟩ := vals1 rv
  cases ru
  obtain ⟨d1, d2, d3⟩ := dens_ok q _ _ _ _ e1 rs
  have hlen := rs.length
  rcases g with g | g
  · obtain ⟨its, r2, ⟨o, n, ho, hc, hd, ht⟩, hz⟩ := I.list g
    refine srt_coll hu I d2 d3 e2 (by omega) (fun R hR => ?_) post
    refine wpAny_collect_seq a (.inl rfl) ho hc ht (fun h' hk => ?_) (by rw [List.size_toArray, ← r2.length]; omega)
    have I1 : Inv X pins σ H { s with heap := h' } := I.kept (t' := s.toks) hk
    exact hR { s with heap := h' } its hk rfl rfl (each_of rs r2) (each_reads I1 d1 r2)
  · obtain ⟨its, r2, ⟨o, ho, hc, n, ht⟩, hz⟩ := I.tuple g
    refine srt_coll hu I d2 d3 e2 (by omega) (fun R hR => ?_) post
    refine wpAny_collect_seq a (.inr rfl) ho hc ht (fun h' hk => ?_) (by rw [List.size_toArray, ← r2.length]; omega)
    have I1 : Inv X pins σ H { s with heap := h' } := I.kept (t' := s.toks) hk
    exact hR { s with heap := h' } its hk rfl rfl (each_of rs r2) (each_reads I1 d1 r2)
/-! sets of texts -/
theorem perm_of_nodup {α : Type} [DecidableEq α] : ∀ {ks ts : List α}, ks.Nodup → (∀ k ∈ ks, k ∈ ts) → ts.length ≤ ks.length → ks.Perm ts
  | [], ts, _, _, h => by
    have : ts = [] := List.eq_nil_of_length_eq_zero (by simpa using h)
    rw [this]
  | k :: ks, ts, nd, hm, hl => by
    have h1 : k ∈ ts := hm k List.mem_cons_self
    have h2 : (k :: ks).length = ks.length + 1 := rfl
    have h3 := List.length_erase_of_mem h1
    have p := perm_of_nodup (ks := ks) (ts := ts.erase k) (List.nodup_cons.mp nd).2 (fun y hy => by
      rw [List.mem_erase_of_ne]
      · exact hm y (List.mem_cons_of_mem _ hy)
      · rintro rfl; exact (List.nodup_cons.mp nd).1 hy) (by omega)
    exact (p.cons k).trans (List.perm_cons_erase h1).symm
def txOf : Value → Str
  | .str x _ => x
  | _ => ⟨#[]⟩
def cvT (k : Str) : CV := .str k.cps.toList
def leS (a b : List Nat) : Bool := !slt b a
theorem leS_le (a b : List Nat) : leS a b = decide (a ≤ b) := by
  unfold leS
  rw [← slt_eq]
  by_cases h : b < a
  · rw [decide_eq_true h, decide_eq_false (show ¬ a ≤ b from fun z => z h)]; rfl
  · rw [decide_eq_false h, decide_eq_true (show a ≤ b from h)]; rfl
theorem sort_strs (ks : List (List Nat)) : (ks.map CV.str).mergeSort cle = (ks.mergeSort leS).map CV.str :=
  (List.map_mergeSort (f := CV.str) (r := leS) (s := cle) (l := ks) fun a _ b _ => by simp only [cle, clt, leS]).symm
theorem sort_perm {ks ls : List (List Nat)} (p : ks.Perm ls) : ks.mergeSort leS = ls.mergeSort leS := by
  have tr : ∀ a b c : List Nat, leS a b = true → leS b c = true → leS a c = true := fun a b c h1 h2 => by
    rw [leS_le, decide_eq_true_eq] at h1 h2 ⊢
    exact List.le_trans h1 h2
  have tt : ∀ a b : List Nat, (leS a b || leS b a) = true := fun a b => by
    rw [leS_le, leS_le, Bool.or_eq_true, decide_eq_true_eq, decide_eq_true_eq]
    exact List.le_total a b
  refine List.Perm.eq_of_pairwise (fun a b _ _ h1 h2 => ?_) (List.pairwise_mergeSort tr tt ks) (List.pairwise_mergeSort tr tt ls) (((List.mergeSort_perm ks leS).trans p).trans (List.mergeSort_perm ls leS).symm)
  rw [leS_le, decide_eq_true_eq] at h1 h2
  exact List.le_antisymm h1 h2
theorem sorted_tx (hc : X.calm = true) (hu : X.A.units + 70 < cLine) {a : Addr} {ks : List Str} {Q : VK} (ha : H a = some (TxO X.prog X.w a ks))
    (post : ∀ p ws, H p = none → RVs X.K r H ((ks.map cvT).mergeSort cle) ws → Q (.ref p) (upd H p (.lst ws))) : wC X (.builtin "sorted") [.ref a] H Q := by
  intro pins s σ us I rv
  obtain ⟨u1, rfl, ru⟩ := vals1 rv
  cases ru
  obtain ⟨⟨es, ep, t⟩, ho, F, nd, hr, hl, hz⟩ := TxO.get I ha
  have hf : t.fits es.size = true := F.fit
  have hsz : es.size = ks.length := F.sz
  have hb : es.size < scanBound := by rw [hsz]; exact hz
  have tx : ∀ e ∈ es.toList, ∃ k u, e.2 = Value.str k u := fun e he => by
    obtain ⟨k, hk, _⟩ := (F.el e he).1
    obtain ⟨u, q⟩ := Value.isStrOf_shape (x := k) (v := e.2) hk
    exact ⟨k, u, q⟩
  have pm : ks.Perm (es.toList.map fun e => txOf e.2) := perm_of_nodup nd (fun k hk => by
    obtain ⟨e, he, q⟩ := (F.mem k).mp hk
    obtain ⟨u, q2⟩ := Value.isStrOf_shape (x := k) (v := e.2) q
    exact List.mem_map.mpr ⟨e, he, by rw [q2]; rfl⟩) (by rw [List.length_map, Array.length_toList, hsz]; exact Nat.le_refl _)
  have hstr : ∀ bs : List CV, bs.Perm (ks.map cvT) → ∃ ts : List (List Nat), bs = ts.map CV.str ∧ ts.Perm (ks.map (·.cps.toList)) := fun bs hbs => by
    refine ⟨bs.map (fun b => match b with | .str t => t | _ => []), ?_, ?_⟩
    · rw [List.map_map]
      refine (List.map_id bs).symm.trans (List.map_congr_left fun b hb => ?_)
      obtain ⟨k, _, rfl⟩ := List.mem_map.mp (hbs.mem_iff.mp hb)
      rfl
    · have := hbs.map (fun b => match b with | .str t => t | _ => ([] : List Nat))
      rw [List.map_map] at this
      exact this
  have hall : ∀ ts : List (List Nat), sortable (ts.map CV.str) = true := fun ts => by
    unfold sortable
    simp only [List.all_map, Bool.and_eq_true, Bool.or_eq_true, List.all_eq_true, Function.comp, clike, implies_true, true_and]
    exact .inr trivial
  refine srt_collB (r := r) (fun bs => bs.Perm (ks.map cvT)) hu I (fun bs hbs => ?_) (fun R hR => ?_) fun bs p ws hbs hp w => ?_
  · obtain ⟨ts, rfl, pt⟩ := hstr bs hbs
    refine ⟨nrefs_of fun x hx => ?_, depths_of (n := dep) fun x hx => ?_, hall ts, ?_⟩
    · obtain ⟨t, _, rfl⟩ := List.mem_map.mp hx; rfl
    · obtain ⟨t, _, rfl⟩ := List.mem_map.mp hx; exact Nat.zero_le _
    · rw [List.length_map, pt.length_eq, List.length_map]
      exact Nat.le_of_lt (Nat.lt_of_lt_of_le hz (by decide))
  · refine collect_set (A := X.A.in1) (I.ok.hd hc) ⟨_, ho, rfl, rfl⟩ hf hb hr hl fun s1 vs k1 hz g1 o1 p1 => ?_
    have vt : ∀ v ∈ vs, ∃ k u, v = Value.str k u := fun v hv => by
      obtain ⟨e, he, q⟩ := List.mem_map.mp (p1.mem_iff.mp hv)
      obtain ⟨k, u, q2⟩ := tx e he
      exact ⟨k, u, by rw [← q, q2]⟩
    refine hR s1 vs (vs.map fun v => cvT (txOf v)) ?_ k1 g1 o1 (each_at (by simp) fun j v b h1 h2 => ?_) (each_at (by simp) fun j v b h1 h2 => ?_)
    · have p2 := p1.map fun v => cvT (txOf v)
      rw [List.map_map] at p2
      refine p2.trans ?_
      have p3 := (pm.map cvT).symm
      rw [List.map_map] at p3
      exact p3
    · rw [List.getElem?_map, h1] at h2
      cases h2
      obtain ⟨k, u, rfl⟩ := vt v (List.mem_of_getElem? h1)
      refine ⟨.str k, ⟨u, rfl⟩, ?_⟩
      exact rv_key (.inr k)
    · rw [List.getElem?_map, h1] at h2
      cases h2
      obtain ⟨k, u, rfl⟩ := vt v (List.mem_of_getElem? h1)
      refine ⟨[], ?_⟩
      show Reads s1.heap (.str k u) (.str (toS k.cps.toList)) []
      rw [toS_list]
      exact .str k u
  · obtain ⟨ts, rfl, pt⟩ := hstr bs hbs
    refine post p ws hp ?_
    rw [sort_strs, sort_perm pt, ← sort_strs, List.map_map] at w
    exact w
theorem set_call (hc : X.calm = true) {a : Addr} {xs : List Str} {Q : VK} (g : SqL X.K H a (xs.map V.str) ∨ SqT X.K H a (xs.map V.str)) (hl : xs.length + 1 < scanBound)
    (post : ∀ p, H p = none → Q (.ref p) (upd H p (TxO X.prog X.w p (insAll [] xs)))) : wC X (.type "set") [.ref a] H Q := by
  intro pins s σ us I rv
  obtain ⟨u1, rfl, ru⟩ := vals1 rv
  cases ru
  rcases g with g | g
  · obtain ⟨its, r2, p, hz⟩ := I.list g
    exact set_of_list xs (I.ok.hd hc) p.isList (by simpa using strsAre_of r2) hl fun h' tk R k => ⟨.ref s.heap.objs.size, upd H _ (TxO X.prog X.w _ (insAll [] xs)), I.laid (t' := tk) k (Nat.le_refl _) (TxO.new R), rfl, post _ (I.hok.fresh (Nat.le_refl _))⟩
  · obtain ⟨its, r2, p, hz⟩ := I.tuple g
    exact set_of_tuple xs (I.ok.hd hc) p (by simpa using strsAre_of r2) hl fun h' tk R k => ⟨.ref s.heap.objs.size, upd H _ (TxO X.prog X.w _ (insAll [] xs)), I.laid (t' := tk) k (Nat.le_refl _) (TxO.new R), rfl, post _ (I.hok.fresh (Nat.le_refl _))⟩
theorem len_tx {a : Addr} {ks : List Str} {Q : VK} (ha : H a = some (TxO X.prog X.w a ks)) (post : Q (.int ks.length) H) : wC X (.builtin "len") [.ref a] H Q := by
  intro pins s σ us I rv
  obtain ⟨u1, rfl, ru⟩ := vals1 rv
  cases ru
  obtain ⟨⟨es, ep, t⟩, ho, F, nd, hr, hl, hz⟩ := TxO.get I ha
  have hsz : es.size = ks.length := F.sz
  have hb : ks.length < 4096 := hz
  exact call_len_set ho ⟨rfl, rfl, rfl⟩ rfl F.fit (by rw [hsz]; omega) ⟨.int ks.length, H, I.tok _, ⟨_, by rw [hsz]⟩, post⟩
end
end TH

/-! Built-ins by values: calls. -/
namespace TH
open PySem PySem.Spec PyProof.Rows L2
section
variable {X : Cx} {r : Ren} {H : Hp} {h h' : CH} {c : CV} {Q : VK}
/-- len -/
theorem len_dct (hu : X.A.units + 64 < cLine) (q : RH X.prog X.w X.K r h H) {n : Nat} {a : Addr} {kvs : List (CV × CV)} (hn : h[n]? = some (.dct kvs)) (ha : r[n]? = some a) (p : PostE X r H (.int kvs.length) h Q) : wC X (.builtin "len") [.ref a] H Q := by
  obtain ⟨u, e, d⟩ := q.ob n _ a hn ha
  intro pins s σ us I rv
  obtain ⟨u1, rfl, ru⟩ := vals1 rv
  cases ru
  rcases d with ⟨es, rfl, d⟩ | ⟨es, rfl, d⟩
  · refine d_len I (.inl e) fun t s' I' => ⟨.int es.length, H, I', ⟨t, rfl⟩, ?_⟩
    rw [← Paired.length d]; exact p.same q (.int _)
  · exact (call_len_dT (X := X)) pins s σ H [.ref a] [.ref a] Q I rv ⟨a, es, rfl, e, by rw [← Paired.length d]; exact p.same q (.int _)⟩
def biOf : Bi → Value
  | .len => .builtin "len" | .all => .builtin "all" | .any => .builtin "any" | .tuple => .type "tuple" | .list => .type "list" | .set => .type "set" | .sorted => .builtin "sorted" | .int => .type "int" | .abs => .builtin "abs" | .divmod => .builtin "divmod"
  | .min1 => .builtin "min" | .max1 => .builtin "max" | .min2 => .builtin "min" | .max2 => .builtin "max" | .sum => .builtin "sum" | .isi _ => .builtin "isinstance" | .dict1 => .type "dict"
theorem tx_all : ∀ {xs : List CV}, xs.all isTx = true → ∃ ks : List (List Nat), xs = ks.map CV.str
  | [], _ => ⟨[], rfl⟩
  | x :: xs, h => by
    rw [List.all_cons, Bool.and_eq_true] at h
    obtain ⟨ks, rfl⟩ := tx_all h.2
    cases x with
    | str k => exact ⟨k :: ks, rfl⟩
    | _ => exact absurd h.1 (by simp [isTx])
theorem strs_some : ∀ ks : List (List Nat), strs? (ks.map CV.str) = some ks
  | [] => rfl
  | k :: ks => by simp only [List.map_cons, strs?, strs_some ks, Option.map_some]
theorem cvT_toS (k : List Nat) : cvT (toS k) = .str k := by simp [cvT, toS]
theorem cvT_inj {a b : Str} (h : cvT a = cvT b) : a = b := by
  have : a.cps.toList = b.cps.toList := by simpa [cvT] using h
  rw [← toS_list a, ← toS_list b, this]
theorem insT_cv (ks : List Str) (k : Str) : (insT ks k).map cvT = insC (ks.map cvT) (cvT k) := by
  unfold insT insC
  by_cases h : k ∈ ks
  · rw [if_pos h, if_pos (List.mem_map.mpr ⟨k, h, rfl⟩)]
  · rw [if_neg h, if_neg fun z => h (by
      obtain ⟨j, hj, e⟩ := List.mem_map.mp z
      rw [← cvT_inj e]; exact hj)]
    rfl
theorem insAll_map : ∀ (xs ks : List Str), (insAll ks xs).map cvT = insAllC (ks.map cvT) (xs.map cvT)
  | [], _ => rfl
  | x :: xs, ks => by
    show (insAll (insT ks x) xs).map cvT = insAllC (insC (ks.map cvT) (cvT x)) (xs.map cvT)
    rw [insAll_map xs, insT_cv]
theorem insAll_cv (ks : List (List Nat)) : insAllC [] (ks.map CV.str) = (insAll [] (ks.map toS)).map fun k => CV.str k.cps.toList := by
  have := insAll_map (ks.map toS) []
  rw [List.map_map] at this
  have e : ks.map (cvT ∘ toS) = ks.map CV.str := List.map_congr_left fun k _ => cvT_toS k
  rw [e] at this
  exact this.symm
theorem keyP_of {k : CV} {v : V} (w : RV X.K r H k v) (hk : leafK k = true) : ∃ k' : Key, k = ofKey k' ∧ v = kV k' := by
  cases w with
  | int i => exact ⟨.inl i, rfl, rfl⟩
  | str s => exact ⟨.inr (toS s), by simp [ofKey, toS], rfl⟩
  | _ => simp [leafK] at hk
theorem pairs_vs : ∀ {xs : List CV} {vs : List V} {ps : List (CV × CV)}, RVs X.K r H xs vs → pairs? xs = some ps → ps.all (fun p => leafK p.1) = true →
    ∃ (as : List Addr) (es : List (Key × V)), vs = as.map V.ref ∧ Paired (fun p kv => SqT X.K H p [kV kv.1, kv.2]) as es ∧ RKV X.K r H ps es
  | _, _, _, .nil, e, _ => by
    cases e
    exact ⟨[], [], rfl, .nil, .nil⟩
  | x :: xs, _, ps, .cons w t, e, hs => by
    unfold pairs? at e
    split at e
    · rename_i h; cases h
    · rename_i k y r' h
      cases h
      rw [Option.map_eq_some_iff] at e
      obtain ⟨ps, e, rfl⟩ := e
      rw [List.all_cons, Bool.and_eq_true] at hs
      obtain ⟨as, es, rfl, pr, d⟩ := pairs_vs t e hs.2
      cases w with | tup g us =>
      obtain ⟨v1, v2, rfl, u1, u2⟩ := us.two
      obtain ⟨k', rfl, rfl⟩ := keyP_of u1 hs.1
      exact ⟨_ :: as, (k', v2) :: es, rfl, .cons (SqT.of g) pr, .cons ⟨rfl, u2⟩ d⟩
    · cases e
theorem fold_K : ∀ {ps : List (CV × CV)} {es : List (Key × V)} {kvs : List (CV × CV)} {acc : List (Key × V)}, RKV X.K r H ps es → RKV X.K r H kvs acc → RKV X.K r H (ps.foldl (fun acc kv => dput acc kv.1 kv.2) kvs) (mergeK acc es)
  | _, _, _, _, .nil, d => d
  | p :: ps, e :: es, kvs, acc, .cons h t, d => by
    show RKV X.K r H (ps.foldl _ (dput kvs p.1 p.2)) (mergeK (putK acc e.1 e.2) es)
    refine fold_K t ?_
    rw [h.1]
    exact put_K d e.1 h.2
theorem bi_ok (hc : X.calm = true) (hu : X.A.units + 70 < cLine) (q : RH X.prog X.w X.K r h H) {f : Bi} (hf : ∀ t, f ≠ .isi t) {xs : List CV} {vs : List V} (u : RVs X.K r H xs vs) (e : biV f xs h = some (c, h')) (p : PostE X r H c h' Q) : wC X (biOf f) vs H Q := by
  unfold biV at e
  split at e
  · obtain ⟨v, rfl, w1⟩ := u.one
    split at e
    · split at e
      · rename_i hl
        cases e
        cases w1
        refine CallR.w call_len_str ⟨_, rfl, by rw [toS_len, ← lim_eq]; exact hl, ?_⟩
        rw [toS_len]; exact p.same q (.int _)
      · cases e
    · cases e
      cases w1 with | tup t us =>
      refine CallR.w call_len_seq ⟨_, _, rfl, .inr (SqT.of t), ?_⟩
      rw [← us.length]; exact p.same q (.int _)
    · cases e
      cases w1 with | @lst _ ns g =>
      refine CallR.w call_len_seq ⟨_, _, rfl, .inl g.sq, ?_⟩
      rw [show ((ns.map V.int).length : Int) = ((ns.map CV.int).length : Int) by simp]
      exact p.same q (.int _)
    · split at e
      · rename_i hm
        cases e
        cases w1 with | ref z =>
        obtain ⟨vs, g, us⟩ := q.ob _ _ _ hm z
        refine CallR.w call_len_seq ⟨_, _, rfl, .inl (SqL.of g), ?_⟩
        rw [← us.length]; exact p.same q (.int _)
      · rename_i hm
        cases e
        cases w1 with | ref z =>
        obtain ⟨o, vs, g, us⟩ := q.ob _ _ _ hm z
        refine CallR.w call_len_seq ⟨_, _, rfl, .inl (.inl (.inr ⟨o, g⟩)), ?_⟩
        rw [← us.length]; exact p.same q (.int _)
      · rename_i hm
        cases e
        cases w1 with | ref z =>
        exact len_dct (by omega) q hm z p
      · rename_i hm
        cases e
        cases w1 with | ref z =>
        obtain ⟨u, g, ks, rfl, rfl⟩ := q.ob _ _ _ hm z
        refine len_tx g ?_
        rw [List.length_map] at p
        exact p.same q (.int _)
      · cases e
    · cases e
  · rw [Option.map_eq_some_iff] at e
    obtain ⟨bs, e, e2⟩ := e
    cases e2
    rw [Option.bind_eq_some_iff] at e
    obtain ⟨ys, e1, e2⟩ := e
    obtain ⟨v, rfl, w1⟩ := u.one
    cases w1 with | ref z =>
    obtain ⟨vs, g, us, _⟩ := rdl_at q e1 z
    have := bools_vs us e2
    subst this
    exact CallR.w (cr_all hc) ⟨_, bs, rfl, g, p.same q (.bl _)⟩
  · rw [Option.map_eq_some_iff] at e
    obtain ⟨bs, e, e2⟩ := e
    cases e2
    rw [Option.bind_eq_some_iff] at e
    obtain ⟨ys, e1, e2⟩ := e
    obtain ⟨v, rfl, w1⟩ := u.one
    cases w1 with | ref z =>
    obtain ⟨vs, g, us, _⟩ := rdl_at q e1 z
    have := bools_vs us e2
    subst this
    exact CallR.w (cr_any hc) ⟨_, bs, rfl, g, p.same q (.bl _)⟩
  · rw [Option.map_eq_some_iff] at e
    obtain ⟨ys, e1, e2⟩ := e
    cases e2
    obtain ⟨v, rfl, w1⟩ := u.one
    obtain ⟨a, ws, rfl, us, g⟩ := items_at q w1 e1
    rcases g with ⟨g, _⟩ | ⟨g, rfl⟩
    · exact CallR.w call_tuple_of ⟨_, ws, rfl, .inl ⟨g, p.tup q us⟩⟩
    · exact CallR.w call_tuple_of ⟨_, ws, rfl, .inr ⟨g, p.same q w1⟩⟩
  · rw [Option.bind_eq_some_iff] at e
    obtain ⟨ys, e1, e2⟩ := e
    obtain ⟨rfl, rfl⟩ := newc_eq e2
    obtain ⟨v, rfl, w1⟩ := u.one
    obtain ⟨a, ws, rfl, us, g⟩ := items_at q w1 e1
    exact CallR.w call_list_of ⟨_, ws, rfl, g.imp (·.1) (·.1), p.lst q us⟩
  · cases e
    obtain ⟨v, rfl, w1⟩ := u.one
    cases w1
    exact CallR.w call_int1 (.inl ⟨_, rfl, p.same q (.int _)⟩)
  · cases e
    obtain ⟨v, rfl, w1⟩ := u.one
    cases w1
    exact CallR.w call_int1 (.inr ⟨_, rfl, p.same q (.int _)⟩)
  · cases e
    obtain ⟨v, rfl, w1⟩ := u.one
    cases w1
    exact CallR.w call_abs ⟨_, rfl, p.same q (.int _)⟩
  · split at e
    · rename_i hl
      cases e
      obtain ⟨v, w, rfl, u1, u2⟩ := u.two
      cases u1; cases u2
      exact CallR.w call_divmod ⟨_, _, rfl, hl, p.tup q (.cons (.int _) (.cons (.int _) .nil))⟩
    · cases e
  · cases e
    obtain ⟨v, w, rfl, u1, u2⟩ := u.two
    cases u1; cases u2
    exact CallR.w (call_min2 hc) ⟨_, _, rfl, p.same q (.int _)⟩
  · cases e
    obtain ⟨v, w, rfl, u1, u2⟩ := u.two
    cases u1; cases u2
    exact CallR.w (call_max2 hc) ⟨_, _, rfl, p.same q (.int _)⟩
  · rw [Option.map_eq_some_iff] at e
    obtain ⟨bs, e, e2⟩ := e
    cases e2
    rw [Option.bind_eq_some_iff] at e
    obtain ⟨ys, e1, e2⟩ := e
    obtain ⟨v, rfl, w1⟩ := u.one
    cases w1 with | ref z =>
    obtain ⟨vs, g, us, _⟩ := rdl_at q e1 z
    have := ints_vs us e2
    subst this
    exact CallR.w (cr_sum hc) ⟨_, bs, rfl, g, p.same q (.int _)⟩
  · exact absurd rfl (hf _)
  · rw [Option.bind_eq_some_iff] at e
    obtain ⟨ys, e1, e2⟩ := e
    rw [Option.bind_eq_some_iff] at e2
    obtain ⟨ds, e2, e3⟩ := e2
    split at e3
    · rename_i hs
      obtain ⟨rfl, hs⟩ := hs
      obtain ⟨rfl, rfl⟩ := newc_eq e3
      obtain ⟨v, rfl, w1⟩ := u.one
      unfold iterable at e1
      split at e1
      · cases e1
        cases w1 with | tup t us =>
        exact sorted_seq hu q (.inr (SqT.of t)) us e2 hs fun a ws ha w => p.lst q w a ha
      · cases w1 with | ref z =>
        split at e1
        · rename_i hm
          cases e1
          obtain ⟨vs, g, us⟩ := q.ob _ _ _ hm z
          exact sorted_seq hu q (.inl (SqL.of g)) us e2 hs fun a ws ha w => p.lst q w a ha
        · rename_i hm
          cases e1
          obtain ⟨o, vs, g, us⟩ := q.ob _ _ _ hm z
          exact sorted_seq hu q (.inl (.inl (.inr ⟨o, g⟩))) us e2 hs fun a ws ha w => p.lst q w a ha
        · rename_i hm
          cases e1
          obtain ⟨u, g, d⟩ := q.ob _ _ _ hm z
          exact sorted_dct hc hu g d hs fun a ws ha w => p.lst q w a ha
        · rename_i hm
          cases e1
          obtain ⟨u, g, ks, rfl, rfl⟩ := q.ob _ _ _ hm z
          exact sorted_tx hc hu g fun a ws ha w => p.lst q w a ha
        · cases e1
      · cases e1
    · cases e3
  · rw [Option.bind_eq_some_iff] at e
    obtain ⟨ys, e1, e2⟩ := e
    split at e2
    · rename_i hs
      obtain ⟨rfl, rfl⟩ := newc_eq e2
      obtain ⟨v, rfl, w1⟩ := u.one
      obtain ⟨b, ws, rfl, t, g⟩ := items_at q w1 e1
      obtain ⟨ks, rfl⟩ := tx_all hs.1
      have e3 := strs_vs t (strs_some ks)
      subst e3
      refine set_call hc (g.imp (·.1) (·.1)) (by simp only [List.length_map] at hs ⊢; exact Nat.lt_of_le_of_lt (Nat.succ_le_succ hs.2) (by decide)) fun a ha => ?_
      refine p _ (r ++ [a]) _ (Step.cell ha) (q.cell ha ⟨_, upd_same, insAll [] (ks.map toS), rfl, ?_⟩) ?_
      · rw [insAll_cv]
      · refine .ref ?_
        rw [q.len, List.getElem?_append_right (Nat.le_refl _), Nat.sub_self]
        rfl
    · cases e2
  · rw [Option.bind_eq_some_iff] at e
    obtain ⟨ys, e1, e2⟩ := e
    rw [Option.bind_eq_some_iff] at e2
    obtain ⟨ps, e2, e3⟩ := e2
    split at e3
    · rename_i hs
      obtain ⟨rfl, rfl⟩ := newc_eq e3
      obtain ⟨v, rfl, w1⟩ := u.one
      cases w1 with | ref z =>
      obtain ⟨vs, g, us, _⟩ := rdl_at q e1 z
      obtain ⟨as, es, rfl, pr, d⟩ := pairs_vs us e2 hs
      refine CallR.w (call_dictP hc) ⟨_, as, es, rfl, g, pr, fun a ha => ?_⟩
      refine p _ (r ++ [a]) _ (Step.cell ha) (q.cell ha ⟨_, upd_same, .inl ⟨_, rfl, ?_⟩⟩) ?_
      · exact Paired.mapP (fold_K d .nil) fun _ _ z => ⟨z.1, z.2.step q (Step.cell ha)⟩
      · refine .ref ?_
        rw [q.len, List.getElem?_append_right (Nat.le_refl _), Nat.sub_self]
        rfl
    · cases e3
  · cases e
end
end TH

/-! Methods by values. -/
namespace TH
open PySem PySem.Spec PyProof.Rows L2
section
variable {X : Cx} {r : Ren} {H : Hp} {h h' : CH} {c : CV} {Q : VK}
/-- the value is of the type T -/
def tyW (X : Cx) (T : String) (x : V) (H : Hp) : Prop := ∀ (pins : List (Addr × Obj)) (σ : L2.St) (s : Shared) (v : Value), Inv X pins σ H s → RelV x v → s.TypeIs v T ∧ ∀ a, v = .ref a → ∃ ob, s.heap.get? a = some ob ∧ ob.dict = none
theorem tyW_of {T : String} {x : V} (t : tyV X.K T x H) : tyW X T x H := fun _ _ _ _ I rv => tyV_is I rv t
/-- which built-in a method is, by its receiver's type -/
structure MId (T : String) (name : Str) (id : String) : Prop where
  pa : PlainAttrs T
  slot : Slot T name id
  ty : typeOf (.builtin id) = pure (.type "method_descriptor")
def meT : Me → String
  | .append | .extend | .pop | .remove | .index | .count => "list"
  | .get | .setdefault => "dict"
  | .join | .partition | .split | .upper => "str"
def meN : Me → String
  | .append => "append" | .extend => "extend" | .pop => "pop" | .remove => "remove" | .index => "index" | .count => "count" | .get => "get" | .setdefault => "setdefault"
  | .join => "join" | .partition => "partition" | .split => "split" | .upper => "upper"
def meI : Me → String
  | .append => "list.append" | .extend => "list.extend" | .pop => "list.pop" | .remove => "list.remove" | .index => "list.index" | .count => "list.count" | .get => "dict.get" | .setdefault => "dict.setdefault"
  | .join => "str.join" | .partition => "str.partition" | .split => "str.split" | .upper => "str.upper"
theorem meId0 (m : Me) : MId (meT m) (Str.ofString (meN m)) (meI m) := by
  cases m
  · exact ⟨PySem.F.plainAttrs_list, PySem.F.slot_list_append, PySem.F.type_list_append⟩
  · exact ⟨PySem.F.plainAttrs_dict, PySem.F.slot_dict_get, PySem.F.type_dict_get⟩
  · exact ⟨PySem.F.plainAttrs_dict, PySem.F.slot_dict_setdefault, PySem.F.type_dict_setdefault⟩
  · exact ⟨PySem.F.plainAttrs_list, PySem.F.slot_list_pop, PySem.F.type_list_pop⟩
  · exact ⟨PySem.F.plainAttrs_list, PySem.F.slot_list_remove, PySem.F.type_list_remove⟩
  · exact ⟨PySem.F.plainAttrs_list, PySem.F.slot_list_index, PySem.F.type_list_index⟩
  · exact ⟨PySem.F.plainAttrs_list, PySem.F.slot_list_count, PySem.F.type_list_count⟩
  · exact ⟨PySem.F.plainAttrs_list, PySem.F.slot_list_extend, PySem.F.type_list_extend⟩
  · exact ⟨PySem.F.plainAttrs_str, PySem.F.slot_str_join, PySem.F.type_str_join⟩
  · exact ⟨PySem.F.plainAttrs_str, PySem.F.slot_str_partition, PySem.F.type_str_partition⟩
  · exact ⟨PySem.F.plainAttrs_str, PySem.F.slot_str_split, PySem.F.type_str_split⟩
  · exact ⟨PySem.F.plainAttrs_str, PySem.F.slot_str_upper, PySem.F.type_str_upper⟩
/-- by what it is asked of: a tuple's index, count -/
def meT2 : Me → CV → String
  | .index, .tup _ => "tuple"
  | .count, .tup _ => "tuple"
  | m, _ => meT m
def meI2 : Me → CV → String
  | .index, .tup _ => "tuple.index"
  | .count, .tup _ => "tuple.count"
  | m, _ => meI m
theorem meId (m : Me) (o : CV) : MId (meT2 m o) (Str.ofString (meN m)) (meI2 m o) := by
  cases m
  case index =>
    cases o
    case tup => exact ⟨PySem.F.plainAttrs_tuple, PySem.F.slot_tuple_index, PySem.F.type_tuple_index⟩
    all_goals exact meId0 .index
  case count =>
    cases o
    case tup => exact ⟨PySem.F.plainAttrs_tuple, PySem.F.slot_tuple_count, PySem.F.type_tuple_count⟩
    all_goals exact meId0 .count
  case append => exact meId0 .append
  case get => exact meId0 .get
  case setdefault => exact meId0 .setdefault
  case pop => exact meId0 .pop
  case remove => exact meId0 .remove
  case extend => exact meId0 .extend
  case join => exact meId0 .join
  case partition => exact meId0 .partition
  case split => exact meId0 .split
  case upper => exact meId0 .upper
abbrev tMe (X : Cx) (name : Str) (to : TE) (t : TA) : TE := fun σ H Q => to σ H fun x H1 => ∃ T id, MId T name id ∧ tyW X T x H1 ∧ t σ H1 fun xs H2 => wM X id x xs H2 Q
/-- o.m(), o.m(e, ..), any built-in method -/
theorem pe_mw0 {o : Expr} {name : Str} {apos cpos : Pos} {to : TE} (ho : PE X o to) (hbase : attributeBase o name X.env (eval o X.env) = eval o X.env) (hline : (apos.endLine == cpos.line) = true) : PE X (.Call (.Attribute o name apos) [] [] cpos) (tMe X name to tNil) := by
  refine ⟨fun pins s σ H Q I h => ?_⟩
  refine wpAny_Call_method0_late hbase hline (thn (ho.run pins s σ H _ I h) fun v s1 ⟨x, H1, I1, r1, T, id, m, ty, q1⟩ => ?_)
  obtain ⟨h1, h2⟩ := ty _ _ _ _ I1 r1
  exact ⟨T, id, m.pa, m.slot, m.ty, h1, h2, Calls.callWith_builtin rfl (PySem.evalArgs_none (q1 pins s1 σ v [] I1 r1 .nil))⟩
theorem pe_mw {o e : Expr} {es : List Expr} {name : Str} {apos cpos : Pos} {to : TE} {t : TA} (ho : PE X o to) (ha : PA X (e :: es) t)
    (hbase : attributeBase o name X.env (eval o X.env) = eval o X.env)
    (hfew : ((backTo cpos (starEach (e :: es) X.env)).all (fun x => !x.1) && (backToKw cpos (keywordEach [] X.env)).all (fun x => x.1.isSome)
      && decide ((e :: es).length + ([] : List Keyword).length + (if ([] : List Keyword).isEmpty then 0 else 1) < 30)) = true)
    (hline : (apos.endLine == cpos.line) = true) (hs : starEach (e :: es) X.env = (false, eval e X.env) :: starEach es X.env) (hplain : (backTo cpos (starEach es X.env)).any (·.1) = false) :
    PE X (.Call (.Attribute o name apos) (e :: es) [] cpos) (tMe X name to t) := by
  refine ⟨fun pins s σ H Q I h => ?_⟩
  refine wpAny_Call_method_late hbase hfew hline rfl (thn (ho.run pins s σ H _ I h) fun v s1 ⟨x, H1, I1, r1, T, id, m, ty, q1⟩ => ?_)
  obtain ⟨h1, h2⟩ := ty _ _ _ _ I1 r1
  refine ⟨T, id, m.pa, m.slot, m.ty, h1, h2, ?_⟩
  have hA := ha.run cpos pins s1 σ H1 _ I1 q1
  rw [hs] at hA ⊢
  refine Calls.callWith_builtin (by show (false || (backTo cpos (starEach es X.env)).any (·.1)) = false; rw [hplain] <;> rfl) (Calls.evalArgs_plain ?_)
  exact thn hA fun us s2 ⟨vs, H2, I2, r2, q2⟩ => q2 pins s2 σ v us I2 r1 r2
theorem recv_ty (q : RH X.prog X.w X.K r h H) {m : Me} {o : CV} {x : V} (u : RV X.K r H o x) (e : recvOk m o h = true) : tyW X (meT2 m o) x H := by
  have lst : ∀ {n : Nat} {xs : List CV}, o = .ref n → h[n]? = some (.lst xs) → tyW X "list" x H := by
    intro n xs e1 hm
    subst e1
    cases u with | ref z =>
    obtain ⟨vs, g, _⟩ := q.ob _ _ _ hm z
    exact tyW_of (.inl ⟨rfl, vs, SqL.of g⟩)
  have dct : ∀ {a : Addr} {kvs : List (CV × CV)} {u : HO}, RD X.K r H kvs u → Rd H a u → tyW X "dict" (.ref a) H := by
    intro a kvs u d g pins σ s v I rv
    cases rv
    have hd : IsD H a := by
      rcases d with ⟨es, rfl, _⟩ | ⟨es, rfl, _⟩
      · exact .inl ⟨es, g⟩
      · exact .inr ⟨es, g⟩
    obtain ⟨h1, h2, _⟩ := isD_at I hd
    exact ⟨h1, h2⟩
  have str : ∀ {t : List Nat}, o = .str t → tyW X "str" x H := by
    intro t e1
    subst e1
    cases u
    exact tyW_of rfl
  have frz : ∀ {n : Nat} {xs : List CV}, o = .ref n → h[n]? = some (.frz xs) → tyW X "list" x H := by
    intro n xs e1 hm
    subst e1
    cases u with | ref z =>
    obtain ⟨o, vs, g, _⟩ := q.ob _ _ _ hm z
    exact tyW_of (.inl ⟨rfl, vs, .inl (.inr ⟨o, g⟩)⟩)
  unfold recvOk at e
  split at e
  · split at e
    · exact lst rfl (by assumption)
    · cases e
  · split at e
    · exact lst rfl (by assumption)
    · cases e
  · split at e
    · exact lst rfl (by assumption)
    · cases e
  · split at e
    · exact lst rfl (by assumption)
    · cases e
  · split at e
    · exact lst rfl (by assumption)
    · exact frz rfl (by assumption)
    · cases e
  · split at e
    · exact lst rfl (by assumption)
    · exact frz rfl (by assumption)
    · cases e
  · split at e
    · rename_i hm
      cases u with | ref z =>
      obtain ⟨u, g, d⟩ := q.ob _ _ _ hm z
      exact dct d (.inl g)
    · rename_i hm
      cases u with | ref z =>
      obtain ⟨o, u, g, d⟩ := q.ob _ _ _ hm z
      exact dct d (.inr ⟨o, g⟩)
    · cases e
  · split at e
    · rename_i hm
      cases u with | ref z =>
      obtain ⟨u, g, d⟩ := q.ob _ _ _ hm z
      exact dct d (.inl g)
    · cases e
  · exact str rfl
  · exact str rfl
  · exact str rfl
  · exact str rfl
  · cases e
/-- d.setdefault(k, x), a dict of either kind -/
theorem d_setdC {pins : List (Addr × Obj)} {σ : L2.St} {s : Shared} {a : Addr} {u rr : Value} {y d : V} {ov : Option V} {H' : Hp} {Q : Value → Shared → Prop} (hu : X.A.units + 1 < cLine) (I : Inv X pins σ H s) (g : DGet H a y ov) (gp : DPut H a y d H') (ry : RelV y u) (rd : RelV d rr)
    (h1 : ∀ v, ov = some v → ∀ (w' : Value) (s' : Shared), Inv X pins σ H s' → RelV v w' → Q w' s') (h2 : ov = none → ∀ (w' : Value) (s' : Shared), Inv X pins σ H' s' → RelV d w' → Q w' s') :
    wpAny (model X.prog X.w) X.A (call (.builtin "dict.setdefault") [.ref a, u, rr]) Q X.xe s := by
  rcases gp with ⟨kvs, k, e, ey, l, eH⟩ | ⟨kvs, k, b, e, ey, eb, l, eH⟩
  · subst ey eH
    rcases g with ⟨kvs', k', e', ey', eo⟩ | ⟨_, _, b', e', _⟩
    · have : kvs' = kvs ∧ k' = k := by
        refine ⟨?_, (kV_inj ey').symm⟩
        rcases e' with e' | ⟨_, e'⟩ <;> rw [e] at e' <;> cases e'
        rfl
      obtain ⟨rfl, rfl⟩ := this
      subst eo
      exact d_setd I e ry rd l h1 h2
    · rcases e' with e' | ⟨_, e'⟩ <;> rw [e] at e' <;> cases e'
  · subst ey eH
    rcases g with ⟨_, _, e', _⟩ | ⟨kvs', k', b', e', ey', eb', eo⟩
    · rcases e' with e' | ⟨_, e'⟩ <;> rw [e] at e' <;> cases e'
    · have hk : kvs' = kvs := by
        rcases e' with e' | ⟨_, e'⟩ <;> rw [e] at e' <;> cases e'
        rfl
      subst hk
      cases ey'
      have hk2 : k' = k := by
        have z := HO.tup.inj (Option.some.inj (eb.symm.trans eb'))
        exact (kVs_inj z).symm
      subst hk2
      cases (show u = Value.ref b from ry)
      obtain ⟨z, hd, xs, rel, dd⟩ := dt_of I.hok e
      have hz : xs.length ≤ sizeLine := by rw [← Paired.length rel]; exact z
      have hl : (putK kvs' k' d).length ≤ sizeLine := by have := length_putK kvs' k' d; omega
      have val := rel.val k'
      refine call_setdefault_heap (hsz := hz) (tupleKind_room_in1 hu) (key_of I.hok eb) hd dd (fun p hp => ?_) fun hn h' dd' hs => ?_
      · rw [hp] at val
        cases q0 : valV kvs' k' with
        | none => rw [q0] at val; exact False.elim val
        | some v0 =>
          rw [q0] at val
          exact h1 v0 (eo.trans q0) _ _ (I.tok _) val
      · rw [hn] at val
        cases q0 : valV kvs' k' with
        | some v0 => rw [q0] at val; exact False.elim val
        | none =>
          obtain ⟨qq, es, ep, hq, g2, g3, g4, _, g5⟩ := dd'
          refine h2 (eo.trans q0) _ _ (d_write I (by rw [e]; exact True.intro) hs ⟨qq, hq⟩ ⟨hl, hd, _, (rel.put k' eb rd).keeps fun c ys ec => ?_, qq, es, ep, hq, g2, g3, g4, g5⟩) rd
          rw [upd_ne (ne_of ec e (fun z => nomatch z))]
          exact ec
theorem joinS_len (S : List Nat) : ∀ ys : List (List Nat), ys ≠ [] → (joinS S ys).length + S.length = (ys.map (·.length)).sum + ys.length * S.length
  | [], h => absurd rfl h
  | [x], _ => by simp [joinS]
  | x :: y :: r, _ => by
    have ih := joinS_len S (y :: r) (by simp)
    simp only [joinS, List.length_append, List.map_cons, List.sum_cons, List.length_cons, Nat.succ_mul] at ih ⊢
    omega
theorem join_toS (s : List Nat) : ∀ ys : List (List Nat), Txt.join (toS s) (ys.map toS) = toS (joinS s ys) := by
  intro ys
  rw [TL.join_eq]
  induction ys with
  | nil => rfl
  | cons x ys ih =>
    cases ys with
    | nil => rfl
    | cons y r =>
      simp only [List.map_cons, Str.join, joinS] at ih ⊢
      rw [ih, toS_app, toS_app]
theorem upperOf_small : ∀ c : Nat, c < 128 → Unicode.upperOf c = [upC c] := by
  intro c hc
  have : ∀ c : Fin 128, Unicode.upperOf c.val = [upC c.val] := by decide +kernel
  exact this ⟨c, hc⟩
theorem upper_toS {s : List Nat} (h : s.all (fun c => decide (c < 128)) = true) : Txt.upper (toS s) = toS (s.map upC) := by
  unfold Txt.upper toS PySem.placed
  congr 1
  apply Array.toList_inj.mp
  rw [Array.toList_flatten]
  simp only [Array.toList_mapIdx]
  have key : ∀ (l : List Nat) (f : Nat → Nat → Array Nat), (∀ i c, c ∈ l → f i c = #[upC c]) → ((l.mapIdx f).map Array.toList).flatten = l.map upC := by
    intro l
    induction l with
    | nil => intro f _; simp
    | cons a l ih =>
      intro f hf
      rw [List.mapIdx_cons, List.map_cons, List.flatten_cons, hf 0 a List.mem_cons_self, ih _ fun i c hc => hf (i + 1) c (List.mem_cons_of_mem _ hc)]
      rfl
  rw [key s _ fun i c hc => by
    rw [List.all_eq_true] at h
    rw [upperOf_small c (by simpa using h c hc)]]
theorem par_partS (c : Nat) : ∀ (l acc : List Nat), TL.par [c] acc l = partS [c] acc l
  | [], acc => by simp [TL.par, partS, isPre]
  | d :: l, acc => by
    simp only [TL.par, partS, par_partS c l]
    rfl
theorem part_toS (s : List Nat) (c : Nat) : Txt.partition (toS s) (toS [c]) = match partS [c] [] s with
    | some (a, b) => (toS a, toS [c], toS b)
    | none => (toS s, toS [], toS []) := by
  rw [TL.partition_par _ _ (by simp [TL.tl, toS])]
  rw [show TL.tl (toS [c]) = [c] from rfl, show TL.tl (toS s) = s from by simp [TL.tl, toS], par_partS]
  cases partS [c] [] s with
  | none => rfl
  | some p => rfl
theorem spl_splitC (c : Nat) : ∀ (l acc : List Nat), TL.spl [c] 0 acc l = (match splitC c l with | [] => [acc] | w :: ws => (acc ++ w) :: ws)
  | [], acc => by simp [TL.spl, splitC]
  | d :: l, acc => by
    have hne : splitC c l ≠ [] := by
      cases l with
      | nil => simp [splitC]
      | cons e l => simp only [splitC]; split
                    · simp
                    · split <;> simp
    by_cases h : d = c
    · subst h
      rw [TL.spl_hit (by simp [TL.pre])]
      simp only [List.length_cons, List.length_nil, Nat.zero_add, Nat.sub_self]
      rw [spl_splitC d l]
      have e2 : splitC d (d :: l) = [] :: splitC d l := by simp [splitC]
      rw [e2]
      cases e : splitC d l with
      | nil => exact absurd e hne
      | cons w ws => simp
    · rw [TL.spl_miss (by simp [TL.pre, h]), spl_splitC c l]
      have e2 : splitC c (d :: l) = (match splitC c l with | [] => [[d]] | w :: ws => (d :: w) :: ws) := by simp only [splitC, h, if_false] <;> rfl
      rw [e2]
      cases e : splitC c l with
      | nil => exact absurd e hne
      | cons w ws => simp
theorem split_toS (s : List Nat) {c : Nat} (hc : c < 256) : Txt.split (toS s) (toS [c]) = (splitC c s).map toS := by
  apply TL.map_tl_inj
  rw [TL.split_spl _ _ (by simp [TL.tl, toS]) (TL.kind_ok (by simp [toS, hc]))]
  rw [show TL.tl (toS [c]) = [c] from rfl, show TL.tl (toS s) = s from by simp [TL.tl, toS], spl_splitC, List.map_map]
  have hid : (splitC c s).map (TL.tl ∘ toS) = splitC c s := by
    rw [show (TL.tl ∘ toS) = id from by funext l; simp [TL.tl, toS]]
    simp
  rw [hid]
  cases e : splitC c s with
  | nil =>
    exfalso
    cases s with
    | nil => simp [splitC] at e
    | cons d l =>
      simp only [splitC] at e
      split at e
      · cases e
      · split at e <;> cases e
  | cons w ws => rfl
theorem find_pds {d : CV} (hd : nref d = true) : ∀ {zs : List CV}, nrefs zs = true → (pds zs).findIdx? (fun z => PyData.eqv z (pd d)) = zs.findIdx? fun z => ceq z d
  | [], _ => rfl
  | z :: zs, h => by
    simp only [nrefs, Bool.and_eq_true] at h
    simp only [pds, List.findIdx?_cons, ceq_pd z d h.1 hd, find_pds hd h.2]
theorem count_pds {d : CV} (hd : nref d = true) : ∀ {zs : List CV}, nrefs zs = true → (pds zs).countP (fun z => PyData.eqv z (pd d)) = zs.countP fun z => ceq z d
  | [], _ => rfl
  | z :: zs, h => by
    simp only [nrefs, Bool.and_eq_true] at h
    simp only [pds, List.countP_cons, ceq_pd z d h.1 hd, count_pds hd h.2]
/-- the data of a search -/
theorem find_data (q : RH X.prog X.w X.K r h H) {v : CV} {xs : List CV} {x : V} {vs : List V} (us : RVs X.K r H xs vs) (u : RV X.K r H v x) {j : Nat} (e : eqFst h v xs = some (some j)) :
    ∃ ds d, DpAll X.K H vs ds ∧ Dp X.K H x d ∧ PyData.plainAll ds = true ∧ d.plain = true ∧ d.depth ≤ 20 ∧ PySem.SeqAt.dataPlace ds d = some j := by
  unfold eqFst at e
  rw [Option.bind_eq_some_iff] at e
  obtain ⟨d, e1, e2⟩ := e
  rw [Option.bind_eq_some_iff] at e2
  obtain ⟨zs, e2, e3⟩ := e2
  obtain ⟨a1, b1, c1⟩ := den_ok q _ _ _ _ e1 u
  obtain ⟨a2, b2, c2⟩ := dens_ok q _ _ _ _ e2 us
  refine ⟨pds zs, pd d, a2, a1, plain_pds _, plain_pd _, c1, ?_⟩
  show (pds zs).findIdx? _ = _
  rw [find_pds b1 b2]
  exact Option.some.inj e3
theorem remove_d (hu : X.A.units + 70 < cLine) {a : Addr} {x : V} {vs : List V} {ds : List PyData} {d : PyData} {j : Nat} (g : H a = some (.lst vs)) (h1 : DpAll X.K H vs ds) (h2 : Dp X.K H x d) (h3 : PyData.plainAll ds = true) (h4 : d.plain = true) (h5 : d.depth ≤ 20) (hp : PySem.SeqAt.dataPlace ds d = some j)
    (post : Q .non (upd H a (.lst (vs.eraseIdx j)))) : wM X "list.remove" (.ref a) [x] H Q := by
  intro pins s σ v us I rx rxs
  cases rx
  obtain ⟨u, rfl, ru⟩ := rxs.one
  obtain ⟨z, its, n, rv, hl, e⟩ := I.lstM g
  obtain ⟨as, r1⟩ := Dp.readsAll I ds vs its h1 rv
  obtain ⟨bs, r2⟩ := Dp.reads I d x u h2 ru
  have hmin := Nat.min_le_right (PyData.depthAll ds) d.depth
  refine PySem.SeqAt.remove_list_data (vs := its.toArray) ⟨_, e, rfl, n, rfl⟩ r1 r2 h3 h4 (by omega) hp (by rw [List.size_toArray, ← hl]; exact z) ?_
  refine ⟨.non, _, I.lset (its' := its.eraseIdx j) (t' := s.toks) g e ?_ (rv.eraseIdx j) ?_, rfl, post⟩
  · show its.toArray.eraseIdxIfInBounds j = (its.eraseIdx j).toArray
    rw [List.eraseIdxIfInBounds_toArray]
  · have := List.length_eraseIdx_le vs j
    omega
theorem index_d (hu : X.A.units + 70 < cLine) {a : Addr} {x : V} {vs : List V} {ds : List PyData} {d : PyData} {j : Nat} (h1 : DpAll X.K H vs ds) (h2 : Dp X.K H x d) (h3 : PyData.plainAll ds = true) (h4 : d.plain = true) (h5 : d.depth ≤ 20) (hp : PySem.SeqAt.dataPlace ds d = some j)
    (post : Q (.int (j : Nat)) H) : (SqL X.K H a vs → wM X "list.index" (.ref a) [x] H Q) ∧ (SqT X.K H a vs → wM X "tuple.index" (.ref a) [x] H Q) := by
  have hmin := Nat.min_le_right (PyData.depthAll ds) d.depth
  constructor
  · intro g pins s σ v us I rx rxs
    cases rx
    obtain ⟨u, rfl, ru⟩ := rxs.one
    obtain ⟨its, rv, ⟨⟨cls, dd, data, sl⟩, n, ho, hc, hdn, hd⟩, hz⟩ := I.list g
    simp only at hc hd
    subst hc hd
    obtain ⟨as, r1⟩ := Dp.readsAll I ds vs its h1 rv
    obtain ⟨bs, r2⟩ := Dp.reads I d x u h2 ru
    obtain ⟨hj, hit, hno⟩ := PySem.SeqAt.hit_at (vs := its.toArray) r1 h3 hp
    have hsz : its.toArray.size ≤ sizeLine := by rw [List.size_toArray, ← rv.length]; exact hz
    rw [sizeLine_eq] at hsz
    exact call_meets PySem.F.slot_list_index ⟨_, ho, rfl⟩ PySem.F.entry_list_index (PySem.F.args_list_index_2 _ _) (PySem.SeqAt.list_indexAt a its.toArray n dd sl u _ j hj (by omega) hit hno)
      ⟨ho, PySem.SeqAt.items_plain r1 r2 h3 h4 (by omega), ⟨.int (j : Nat), H, I.tok _, ⟨_, rfl⟩, post⟩⟩
  · intro g pins s σ v us I rx rxs
    cases rx
    obtain ⟨u, rfl, ru⟩ := rxs.one
    obtain ⟨its, rv, ⟨⟨cls, dd, data, sl⟩, ho, hc, n, hd⟩, hz⟩ := I.tuple g
    simp only at hc hd
    subst hc hd
    obtain ⟨as, r1⟩ := Dp.readsAll I ds vs its h1 rv
    obtain ⟨bs, r2⟩ := Dp.reads I d x u h2 ru
    obtain ⟨hj, hit, hno⟩ := PySem.SeqAt.hit_at (vs := its.toArray) r1 h3 hp
    exact call_meets PySem.F.slot_tuple_index ⟨_, ho, rfl⟩ PySem.F.entry_tuple_index (PySem.F.args_tuple_index_2 _ _) (TI.tuple_indexAt a its.toArray n dd sl u _ j hj hit hno)
      ⟨ho, PySem.SeqAt.items_plain r1 r2 h3 h4 (by omega), ⟨.int (j : Nat), H, I.tok _, ⟨_, rfl⟩, post⟩⟩
theorem count_d (hu : X.A.units + 70 < cLine) {a : Addr} {x : V} {vs : List V} {ds : List PyData} {d : PyData} (h1 : DpAll X.K H vs ds) (h2 : Dp X.K H x d) (h3 : PyData.plainAll ds = true) (h4 : d.plain = true) (h5 : d.depth ≤ 20)
    (post : Q (.int ((ds.countP fun z => PyData.eqv z d : Nat) : Int)) H) : (SqL X.K H a vs → wM X "list.count" (.ref a) [x] H Q) ∧ (SqT X.K H a vs → wM X "tuple.count" (.ref a) [x] H Q) := by
  have hmin := Nat.min_le_right (PyData.depthAll ds) d.depth
  constructor
  · intro g pins s σ v us I rx rxs
    cases rx
    obtain ⟨u, rfl, ru⟩ := rxs.one
    obtain ⟨its, rv, p, hz⟩ := I.list g
    obtain ⟨as, r1⟩ := Dp.readsAll I ds vs its h1 rv
    obtain ⟨bs, r2⟩ := Dp.reads I d x u h2 ru
    exact PySem.SeqAt.count_list_data p.isList r1 r2 h3 h4 (by omega) ⟨.int _, H, I.tok _, ⟨_, rfl⟩, post⟩
  · intro g pins s σ v us I rx rxs
    cases rx
    obtain ⟨u, rfl, ru⟩ := rxs.one
    obtain ⟨its, rv, p, hz⟩ := I.tuple g
    obtain ⟨as, r1⟩ := Dp.readsAll I ds vs its h1 rv
    obtain ⟨bs, r2⟩ := Dp.reads I d x u h2 ru
    exact PySem.SeqAt.count_tuple_data p r1 r2 h3 h4 (by omega) ⟨.int _, H, I.tok _, ⟨_, rfl⟩, post⟩
theorem me_ok (hu : X.A.units + 70 < cLine) (q : RH X.prog X.w X.K r h H) {m : Me} {o : CV} {xs : List CV} {x : V} {vs : List V} (u : RV X.K r H o x) (us : RVs X.K r H xs vs) (e : meV m o xs h = some (c, h')) (p : PostE X r H c h' Q) : wM X (meI2 m o) x vs H Q := by
  unfold meV at e
  split at e
  · split at e
    · rename_i hn
      split at e
      · rename_i hl
        cases e
        cases u with | ref z =>
        obtain ⟨v, rfl, w⟩ := us.one
        obtain ⟨ws, g, t⟩ := q.ob _ _ _ hn z
        have nf : ∀ (o : Obj) (v : HO), H _ ≠ some (.frz o v) := fun o v y => by rw [g] at y; cases y
        refine MtR.w mt_append ⟨_, ws, v, rfl, rfl, g, by rw [← t.length, ← lim_eq]; exact hl, p _ r _ (Step.write z nf) (q.write z nf ⟨_, upd_same, ?_⟩) .non⟩
        exact (t.append (.cons w .nil)).step q (Step.write z nf)
      · cases e
    · cases e
  · split at e
    · rename_i hn1 hn2
      split at e
      · rename_i hl
        cases e
        cases u with | ref z =>
        obtain ⟨v, rfl, w⟩ := us.one
        cases w with | ref z2 =>
        obtain ⟨ws, g, t⟩ := q.ob _ _ _ hn1 z
        obtain ⟨ws2, g2, t2⟩ := q.ob _ _ _ hn2 z2
        have nf : ∀ (o : Obj) (v : HO), H _ ≠ some (.frz o v) := fun o v y => by rw [g] at y; cases y
        refine MtR.w mt_extend ⟨_, _, ws, ws2, rfl, rfl, g, g2, by rw [← t.length, ← t2.length, ← lim_eq]; exact hl, p _ r _ (Step.write z nf) (q.write z nf ⟨_, upd_same, ?_⟩) .non⟩
        exact (t.append t2).step q (Step.write z nf)
      · cases e
    · cases e
  · split at e
    · rename_i hn
      rw [Option.bind_eq_some_iff] at e
      obtain ⟨j, e1, e2⟩ := e
      rw [Option.map_eq_some_iff] at e2
      obtain ⟨y, e2, e3⟩ := e2
      cases e3
      cases u with | ref z =>
      obtain ⟨v, rfl, w⟩ := us.one
      cases w
      obtain ⟨ws, g, t⟩ := q.ob _ _ _ hn z
      have nf : ∀ (o : Obj) (v : HO), H _ ≠ some (.frz o v) := fun o v y => by rw [g] at y; cases y
      obtain ⟨v, g3, rv⟩ := t.get e2
      have e4 := e1
      rw [t.length] at e4
      obtain ⟨i1, i2, i3, i4⟩ := ixN_seq (n := ws.length) e4
      have hz : ws.length < 2 ^ 62 ∨ ¬ ws.length < 2 ^ 62 := Nat.lt_or_ge _ _ |>.imp_right fun z => by omega
      intro pins s σ vv uu I r1 r2
      have hsz : ws.length ≤ sizeLine := (I.lstM g).1
      rw [sizeLine_eq] at hsz
      exact MtR.w mt_popAt ⟨_, ws, _, j, v, rfl, rfl, g, by omega, by omega, i1, g3, p _ r _ (Step.write z nf) (q.write z nf ⟨_, upd_same, (t.eraseIdx j).step q (Step.write z nf)⟩) (rv.step q (Step.write z nf))⟩ pins s σ vv uu I r1 r2
    · cases e
  · split at e
    · rename_i hn
      rw [Option.bind_eq_some_iff] at e
      obtain ⟨o, e1, e2⟩ := e
      rw [Option.map_eq_some_iff] at e2
      obtain ⟨j, rfl, e3⟩ := e2
      cases e3
      cases u with | ref z =>
      obtain ⟨v, rfl, w⟩ := us.one
      obtain ⟨ws, g, t⟩ := q.ob _ _ _ hn z
      obtain ⟨ds, d, a1, a2, a3, a4, a5, a6⟩ := find_data q t w e1
      have nf : ∀ (o : Obj) (v : HO), H _ ≠ some (.frz o v) := fun o v y => by rw [g] at y; cases y
      exact remove_d hu g a1 a2 a3 a4 a5 a6 (p _ r _ (Step.write z nf) (q.write z nf ⟨_, upd_same, (t.eraseIdx j).step q (Step.write z nf)⟩) .non)
    · cases e
  · rename_i v
    rw [Option.bind_eq_some_iff] at e
    obtain ⟨ys, e0, e⟩ := e
    rw [Option.bind_eq_some_iff] at e
    obtain ⟨o, e1, e2⟩ := e
    rw [Option.map_eq_some_iff] at e2
    obtain ⟨j, rfl, e3⟩ := e2
    cases e3
    obtain ⟨v, rfl, w⟩ := us.one
    obtain ⟨b, ws, rfl, t, g⟩ := items_at q u e0
    obtain ⟨ds, d, a1, a2, a3, a4, a5, a6⟩ := find_data q t w e1
    have qq := index_d (a := b) hu a1 a2 a3 a4 a5 a6 (p.same q (.int j))
    rcases g with ⟨g, n, rfl⟩ | ⟨g, rfl⟩
    · exact qq.1 g
    · exact qq.2 g
  · rename_i v
    rw [Option.bind_eq_some_iff] at e
    obtain ⟨ys, e0, e⟩ := e
    rw [Option.bind_eq_some_iff] at e
    obtain ⟨d, e1, e2⟩ := e
    rw [Option.map_eq_some_iff] at e2
    obtain ⟨zs, e2, e3⟩ := e2
    cases e3
    obtain ⟨v, rfl, w⟩ := us.one
    obtain ⟨b, ws, rfl, t, g⟩ := items_at q u e0
    obtain ⟨a1, b1, c1⟩ := den_ok q _ _ _ _ e1 w
    obtain ⟨a2, b2, c2⟩ := dens_ok q _ _ _ _ e2 t
    have qq := count_d (Q := Q) (a := b) hu a2 a1 (plain_pds _) (plain_pd _) c1 (by rw [count_pds b1 b2]; exact p.same q (.int _))
    rcases g with ⟨g, n, rfl⟩ | ⟨g, rfl⟩
    · exact qq.1 g
    · exact qq.2 g
  · have gt : ∀ {kvs : List (CV × CV)} {n : Nat} {a : Addr} {k d : CV} {w1 w2 : V}, r[n]? = some a → (h[n]? = some (.dct kvs) ∨ (h[n]? = some (.lkd kvs) ∧ kvs ≠ [])) → kok kvs k = true → RV X.K r H k w1 → RV X.K r H d w2 → PostE X r H ((dget kvs k).getD d) h Q → wM X "dict.get" (.ref a) [w1, w2] H Q := by
      intro kvs n a k d w1 w2 z e2 e3 u1 u2 p
      obtain ⟨H2, ov, i2, st, q2, g, o⟩ := dict_read q e2 z e3 u1
      intro pins s σ vv uu I r1 r2
      cases r1
      obtain ⟨t1, t2, rfl, ra, rb⟩ := vals2 r2
      refine d_get2 (by omega) (i2 _ _ _ I) g ra rb fun w' s' I' rw' => ⟨ov.getD w2, H2, I', rw', ?_⟩
      refine p _ r H2 st q2 ?_
      rcases o with ⟨o1, rfl⟩ | ⟨y, v, o1, rfl, rv⟩
      · rw [o1]; exact u2.step q st
      · rw [o1]; exact rv
    obtain ⟨w1, w2, rfl, u1, u2⟩ := us.two
    split at e
    · rename_i hn
      split at e
      · rename_i hk
        cases e
        cases u with | ref z => exact gt z (.inl hn) hk u1 u2 p
      · cases e
    · rename_i hn
      split at e
      · rename_i hk
        rw [Bool.and_eq_true] at hk
        cases e
        cases u with | ref z => exact gt z (.inr ⟨hn, fun z => by rw [z] at hk; simp at hk⟩) hk.1 u1 u2 p
      · cases e
    · cases e
  · split at e
    · rename_i hn
      split at e
      · rename_i hk
        rw [Bool.and_eq_true, decide_eq_true_eq] at hk
        obtain ⟨w1, w2, rfl, u1, u2⟩ := us.two
        cases u with | ref z =>
        obtain ⟨H2, H3, ov, i2, gp, st3, q3, g, oo, st, q2⟩ := dict_put q hn z hk.1 hk.2 u1 u2
        intro pins s σ vv uu I r1 r2
        cases r1
        obtain ⟨t1, t2, rfl, ra, rb⟩ := vals2 r2
        refine d_setdC (by omega) (i2 _ _ _ I) g gp ra rb (fun v hv w' s' I' rw' => ⟨v, H2, I', rw', ?_⟩) fun hv w' s' I' rw' => ⟨w2, H3, I', rw', ?_⟩
        · rcases oo with ⟨o1, o2⟩ | ⟨y, v', o1, o2, rv⟩
          · rw [o2] at hv; cases hv
          · rw [o2] at hv; cases hv
            rw [o1] at e
            cases e
            exact p _ r H2 st q2 rv
        · rcases oo with ⟨o1, o2⟩ | ⟨y, v', o1, o2, rv⟩
          · rw [o1] at e
            cases e
            exact p _ r H3 st3 q3 (u2.step q st3)
          · rw [o2] at hv; cases hv
      · cases e
    · cases e
  · rename_i sep a
    rw [Option.bind_eq_some_iff] at e
    obtain ⟨ys, e1, e2⟩ := e
    rw [Option.bind_eq_some_iff] at e1
    obtain ⟨zs, e0, e1⟩ := e1
    split at e2
    · rename_i hl
      cases e2
      cases u
      obtain ⟨v, rfl, w⟩ := us.one
      obtain ⟨b, ws, rfl, t, g⟩ := items_at q w e0
      have e3 := strs_vs t e1
      subst e3
      refine MtR.w mt_join ⟨_, b, ys.map toS, rfl, rfl, g.imp (·.1) (·.1), ?_, ?_⟩
      · have hs : ((ys.map toS).map (·.length)).sum = (ys.map (·.length)).sum := by
          rw [List.map_map]
          congr 1
        rw [hs, List.length_map, toS_len]
        rw [show lim = 16777216 from rfl] at hl
        cases ys with
        | nil => simp
        | cons y ys =>
          have := joinS_len sep (y :: ys) (by simp)
          omega
      · rw [join_toS]
        exact p.same q (.str _)
    · cases e2
  · split at e
    · rename_i t c hl
      cases u
      obtain ⟨v, rfl, w⟩ := us.one
      cases w
      refine MtR.w mt_partition ⟨_, _, rfl, rfl, rfl, by rw [toS_len, ← lim_eq]; exact hl, ?_⟩
      rw [part_toS]
      split at e
      · rename_i a b hp
        cases e
        try rw [hp]
        exact p.tup q (.cons (.str _) (.cons (.str _) (.cons (.str _) .nil)))
      · rename_i hp
        cases e
        try rw [hp]
        exact p.tup q (.cons (.str _) (.cons (.str _) (.cons (.str _) .nil)))
    · cases e
  · split at e
    · rename_i t c hl
      obtain ⟨rfl, rfl⟩ := newc_eq e
      cases u
      obtain ⟨v, rfl, w⟩ := us.one
      cases w
      refine MtR.w mt_split ⟨_, _, rfl, rfl, rfl, by rw [toS_len, ← lim_eq]; exact hl.1, ?_⟩
      rw [split_toS _ hl.2]
      unfold rNewStrs
      have : ∀ ws : List (List Nat), RVs X.K r H (ws.map .str) ((ws.map toS).map V.str) := fun ws => by
        induction ws with
        | nil => exact .nil
        | cons w ws ih => exact .cons (.str w) ih
      exact p.lst q (this _)
    · cases e
  · split at e
    · rename_i t hl
      cases e
      cases u
      cases us
      refine MtR.w mt_upper ⟨_, rfl, rfl, by rw [toS_len]; omega, ?_⟩
      rw [upper_toS hl.2]
      exact p.same q (.str _)
    · cases e
  · cases e
end
end TH

/-! Which text a clean expression tells. -/
namespace TH
open PySem PySem.Spec PyProof.Rows L2

def visB (sc : Scope) (x : Str) : Bool := match sc.names.lookup x with
  | some .local => true | some .cell => true | some .free => true | _ => false
def glB (sc : Scope) (x : Str) : Bool := match sc.names.lookup x with
  | some .globalImplicit => true | _ => false
/-- a name that may be stored in a block whose own scope is own -/
def stB (own sc : Scope) (x : Str) : Bool := match sc.names.lookup x with
  | some .local => true
  | some .cell => (match own.names.lookup x with | some .cell => true | _ => false)
  | _ => false
structure Names where
  N : List Str
  fn : List (Nat × String × Nat)
  gv : List (String × CV)
def opB : BOp → Operator → Bool
  | .add, .Add => true | .sub, .Sub => true | .mul, .Mult => true | .fdiv, .FloorDiv => true | .mod, .Mod => true | .pow, .Pow => true | _, _ => false
def coB : COp → CmpOp → Bool
  | .eq, .Eq => true | .ne, .NotEq => true | .lt, .Lt => true | .le, .LtE => true | .gt, .Gt => true | .ge, .GtE => true | .isin, .In => true | .notin, .NotIn => true | .is, .Is => true | .isnot, .IsNot => true | _, _ => false
def biN : Bi → String
  | .len => "len" | .all => "all" | .any => "any" | .tuple => "tuple" | .list => "list" | .set => "set" | .sorted => "sorted" | .int => "int" | .abs => "abs" | .divmod => "divmod"
  | .min1 => "min" | .max1 => "max" | .min2 => "min" | .max2 => "max" | .sum => "sum" | .isi _ => "isinstance" | .dict1 => "dict"
def tyN : Ty → String
  | .int => "int" | .str => "str" | .bool => "bool" | .tup => "tuple" | .lst => "list" | .dct => "dict"
def blNames : List Str := ["len", "all", "any", "tuple", "list", "set", "sorted", "int", "abs", "divmod", "min", "max", "sum", "isinstance", "dict", "str", "bool", "range"]
def litB : CV → Const → Bool
  | .non, .none => true
  | .bl a, .bool b => a == b
  | .int i, .int j => i == j
  | .str s, .str t => decide (t = toS s)
  | _, _ => false
def asName : Expr → Option Str
  | .Name x _ => some x | _ => none
def asConst : Expr → Option Const
  | .Constant c _ _ => some c | _ => none
def asBin : Expr → Option (Expr × Operator × Expr)
  | .BinOp a o b _ => some (a, o, b) | _ => none
def asCmp : Expr → Option (Expr × List CmpOp × List Expr)
  | .Compare a o b _ => some (a, o, b) | _ => none
def asBool : Expr → Option (PySem.BoolOp × List Expr × Pos)
  | .BoolOp o l p => some (o, l, p) | _ => none
def asUn : Expr → Option (UnaryOp × Expr)
  | .UnaryOp o a _ => some (o, a) | _ => none
def asIf : Expr → Option (Expr × Expr × Expr)
  | .IfExp c a b _ => some (c, a, b) | _ => none
def asTup : Expr → Option (List Expr)
  | .Tuple l _ _ => some l | _ => none
def asLst : Expr → Option (List Expr)
  | .List l _ => some l | _ => none
def isDct0 : Expr → Bool
  | .Dict [] [] _ => true | _ => false
def asSub : Expr → Option (Expr × Expr)
  | .Subscript a i _ => some (a, i) | _ => none
def asSlc : Expr → Option (Option Expr × Option Expr × Option Expr)
  | .Slice l u s _ => some (l, u, s) | _ => none
def asCall : Expr → Option (Str × List Expr)
  | .Call (.Name x _) l [] _ => some (x, l) | _ => none
def asMeth : Expr → Option (Expr × Str × Pos × List Expr × Pos)
  | .Call (.Attribute o nm ap) l [] p => some (o, nm, ap, l, p) | _ => none
def asComp : Expr → Option (Expr × Str × Expr × List Expr × Scope)
  | .ListComp e [⟨.Name x _, it, ifs, 0⟩] sc _ => some (e, x, it, ifs, sc) | _ => none
def isSet : Expr → Bool
  | .Set _ _ _ => true | _ => false
def isOne : Expr → Bool
  | .UnaryOp .USub (.Constant (.int 1) _ _) _ => true | _ => false
section
variable {e : Expr}
theorem asName_eq {x : Str} (h : asName e = some x) : ∃ p, e = .Name x p := by cases e <;> simp_all [asName]
theorem asConst_eq {x : Const} (h : asConst e = some x) : ∃ k p, e = .Constant x k p := by cases e <;> simp_all [asConst]
theorem asBin_eq {a b : Expr} {o : Operator} (h : asBin e = some (a, o, b)) : ∃ p, e = .BinOp a o b p := by cases e <;> simp_all [asBin]
theorem asCmp_eq {a : Expr} {o : List CmpOp} {b : List Expr} (h : asCmp e = some (a, o, b)) : ∃ p, e = .Compare a o b p := by cases e <;> simp_all [asCmp]
theorem asBool_eq {o : PySem.BoolOp} {l : List Expr} {p : Pos} (h : asBool e = some (o, l, p)) : e = .BoolOp o l p := by cases e <;> simp_all [asBool]
theorem asUn_eq {o : UnaryOp} {a : Expr} (h : asUn e = some (o, a)) : ∃ p, e = .UnaryOp o a p := by cases e <;> simp_all [asUn]
theorem asIf_eq {c a b : Expr} (h : asIf e = some (c, a, b)) : ∃ p, e = .IfExp c a b p := by cases e <;> simp_all [asIf]
theorem asTup_eq {l : List Expr} (h : asTup e = some l) : ∃ k p, e = .Tuple l k p := by cases e <;> simp_all [asTup]
theorem asLst_eq {l : List Expr} (h : asLst e = some l) : ∃ p, e = .List l p := by cases e <;> simp_all [asLst]
theorem isDct0_eq (h : isDct0 e = true) : ∃ p, e = .Dict [] [] p := by
  unfold isDct0 at h
  split at h
  · exact ⟨_, rfl⟩
  · cases h
theorem asSub_eq {a i : Expr} (h : asSub e = some (a, i)) : ∃ p, e = .Subscript a i p := by cases e <;> simp_all [asSub]
theorem asSlc_eq {l u s : Option Expr} (h : asSlc e = some (l, u, s)) : ∃ p, e = .Slice l u s p := by cases e <;> simp_all [asSlc]
theorem asCall_eq {x : Str} {l : List Expr} (h : asCall e = some (x, l)) : ∃ p q, e = .Call (.Name x p) l [] q := by
  unfold asCall at h
  split at h
  · cases h; exact ⟨_, _, rfl⟩
  · cases h
theorem asMeth_eq {o : Expr} {nm : Str} {ap p : Pos} {l : List Expr} (h : asMeth e = some (o, nm, ap, l, p)) : e = .Call (.Attribute o nm ap) l [] p := by
  unfold asMeth at h
  split at h
  · cases h; rfl
  · cases h
theorem asComp_eq {ee it : Expr} {x : Str} {ifs : List Expr} {sc : Scope} (h : asComp e = some (ee, x, it, ifs, sc)) : ∃ p q, e = .ListComp ee [⟨.Name x p, it, ifs, 0⟩] sc q := by
  unfold asComp at h
  split at h
  · cases h; exact ⟨_, _, rfl⟩
  · cases h
theorem isOne_eq (h : isOne e = true) : ∃ k p q, e = .UnaryOp .USub (.Constant (.int 1) k p) q := by
  unfold isOne at h
  split at h
  · exact ⟨_, _, _, rfl⟩
  · cases h
end
def call0 (e : Expr) : Bool := match asCall e with
  | some (_, []) => true
  | _ => false
def isSl (e : Expr) : Bool := (asSlc e).isSome
section
variable (g : Names)
def nmOk (sc : Scope) (i : Nat) (x : Str) : Bool := decide (g.N[i]? = some x) && visB sc x && !(x == ("__debug__" : Str)) && !(x == ("__classdict__" : Str))
def blkB (sc scope : Scope) (i : Nat) (x : Str) : Bool := decide (g.N[i]? = some x) && blkC g.N sc scope [(x, i)] && stB scope (relS scope sc) x
mutual
def chkE (sc : Scope) : CE → Expr → Bool
  | .var i, e => match asName e with
    | some x => nmOk g sc i x
    | none => false
  | .lit v, e => match asConst e with
    | some c => litB v c
    | none => false
  | .glob nm v, e => match asName e with
    | some x => decide (x = Str.ofString nm) && glB sc x && decide ((nm, v) ∈ g.gv) && !(x == ("__debug__" : Str))
    | none => false
  | .bin o a b, e => match asBin e with
    | some (ea, eo, eb) => opB o eo && chkE sc a ea && chkE sc b eb
    | none => false
  | .cmp o a b, e => match asCmp e with
    | some (ea, [eo], [eb]) => coB o eo && chkE sc a ea && chkE sc b eb && !isSet eb
    | _ => false
  | .cmp2 o p a b c, e => match asCmp e with
    | some (ea, [eo, ep], [eb, ec]) => coB o eo && coB p ep && chkE sc a ea && chkE sc b eb && chkE sc c ec && !isSet ec
    | _ => false
  | .cmp3 o p q a b c d, e => match asCmp e with
    | some (ea, [eo, ep, eq], [eb, ec, ed]) => coB o eo && coB p ep && coB q eq && chkE sc a ea && chkE sc b eb && chkE sc c ec && chkE sc d ed && !isSet ed
    | _ => false
  | .and a b, e => match asBool e with
    | some (.And, [ea, eb], _) => chkE sc a ea && chkE sc b eb
    | some (.And, ea :: eb :: ec :: er, p) => chkE sc a ea && chkE sc b (.BoolOp .And (eb :: ec :: er) p)
    | _ => false
  | .or a b, e => match asBool e with
    | some (.Or, [ea, eb], _) => chkE sc a ea && chkE sc b eb
    | some (.Or, ea :: eb :: ec :: er, p) => chkE sc a ea && chkE sc b (.BoolOp .Or (eb :: ec :: er) p)
    | _ => false
  | .not a, e => match asUn e with
    | some (.Not, ea) => chkE sc a ea
    | _ => false
  | .neg a, e => match asUn e with
    | some (.USub, ea) => chkE sc a ea
    | _ => false
  | .ite c a b, e => match asIf e with
    | some (ec, ea, eb) => chkE sc c ec && chkE sc a ea && chkE sc b eb
    | none => false
  | .tup es, e => match asTup e with
    | some l => chkEs sc es l && decide (l.length ≤ 1000)
    | none => false
  | .lst es, e => match asLst e with
    | some l => chkEs sc es l && decide (l.length ≤ 1000)
    | none => false
  | .dct0, e => isDct0 e
  | .ix a i, e => match asSub e with
    | some (ea, ei) => chkE sc a ea && chkE sc i ei && !isSl ei
    | none => false
  | .sl a lo hi, e => match asSub e with
    | some (ea, ei) => (match asSlc ei with
      | some (l, u, none) => chkE sc a ea && chkO sc lo l && chkO sc hi u
      | _ => false)
    | none => false
  | .rev a, e => match asSub e with
    | some (ea, ei) => (match asSlc ei with
      | some (none, none, some s) => chkE sc a ea && isOne s
      | _ => false)
    | none => false
  | .call f es, e => match asCall e with
    | some (x, l) => chkEs sc es l && (match g.fn.lookup f with | some p => decide (x = Str.ofString p.1) && decide (l.length = p.2) | none => false) && glB sc x && !(x == ("__debug__" : Str))
    | none => false
  | .bi f es, e => match asCall e with
    | some (x, l) => decide (x = Str.ofString (biN f)) && glB sc x && (match f with
      | .isi t => (match l with
        | [ea, ey] => chkEs sc es [ea] && (match asName ey with
          | some y => decide (y = Str.ofString (tyN t)) && glB sc y
          | none => false)
        | _ => false)
      | _ => chkEs sc es l && !l.isEmpty)
    | none => false
  | .me m o es, e => match asMeth e with
    | some (eo, nm, ap, l, p) => chkE sc o eo && chkEs sc es l && decide (nm = Str.ofString (meN m)) && !call0 eo && (ap.endLine == p.line) && decide (l.length ≤ 5)
    | none => false
  | .comp elt i it cond, e => match asComp e with
    | some (ee, x, ei, ifs, scope) => chkI sc it ei && blkB g sc scope i x && chkE (relS scope sc) elt ee && (match ifs with
      | [] => (match cond with | .lit (.bl true) => true | _ => false)
      | [ec] => chkE (relS scope sc) cond ec
      | _ => false)
    | none => false
  | .compD elt i vl d cond, e => match asComp e with
    | some (ee, x, ei, ifs, scope) => (match vl with
        | false => (match asName ei with
          | some y => nmOk g sc d y
          | none => false)
        | true => (match asMeth ei with
          | some (eo, nm, ap, [], p) => (match asName eo with
            | some y => nmOk g sc d y && decide (nm = ("values" : Str)) && (ap.endLine == p.line)
            | none => false)
          | _ => false)) && blkB g sc scope i x && chkE (relS scope sc) elt ee && (match ifs with
      | [] => (match cond with | .lit (.bl true) => true | _ => false)
      | [ec] => chkE (relS scope sc) cond ec
      | _ => false)
    | none => false
def chkEs (sc : Scope) : CEs → List Expr → Bool
  | .nil, l => l.isEmpty
  | .cons a as, l => match l with
    | e :: es => chkE sc a e && chkEs sc as es
    | [] => false
def chkO (sc : Scope) : CO1 → Option Expr → Bool
  | .no, e => e.isNone
  | .ex a, o => match o with
    | some e => chkE sc a e
    | none => false
def chkI (sc : Scope) : CI → Expr → Bool
  | .range1 a, e => match asCall e with
    | some (x, [ea]) => chkE sc a ea && decide (x = ("range" : Str)) && glB sc x
    | _ => false
  | .range2 a b, e => match asCall e with
    | some (x, [ea, eb]) => chkE sc a ea && chkE sc b eb && decide (x = ("range" : Str)) && glB sc x
    | _ => false
  | .val a, e => chkE sc a e && !isSet e
end
end
end TH

/-! Expressions: the clean evaluator tells the truth. -/
namespace TH
open PySem PySem.Spec PyProof.Rows L2

/-- a def's promise: what the clean function says -/
def spC (P : Program) (w : World) (K : PySem.W.Frag) (n : Nat) (m : List CV → CH → Out) : Sp := fun vs H Q _ => vs.length = n ∧ ∃ (r : Ren) (h : CH) (xs : List CV) (c : CV) (h' : CH), RH P w K r h H ∧ RVs K r H xs vs ∧ m xs h = some (c, h') ∧
  ∀ v r' H', Step r H r' H' → RH P w K r' h' H' → RV K r' H' c v → Q v H'
structure Wd (g : Names) (F : Fns) (X : Cx) : Prop where
  nN : X.N = g.N
  nd : X.N.Nodup
  calm : X.calm = true
  un : X.A.units + 70 < cLine
  bl : ∀ x ∈ blNames, X.mg x = none
  gl : ∀ p ∈ g.gv, ∃ u v, X.mg (Str.ofString p.1) = some u ∧ RelV v u ∧ ∀ r H, RV X.K r H p.2 v
  fn : ∀ (i : Nat) (p : String × Nat), g.fn.lookup i = some p → ∃ k f fd ps, X.mg (Str.ofString p.1) = some (.ref f) ∧ PySem.W.keepIn X.K (.ref f) = true ∧ Room k X.A ∧ Binds X.K fd ps [] ∧ FnOk X.prog X.w X.K X.mg X.base CX0 k f fd ps (spC X.prog X.w X.K p.2 (F i))
/-- slots -/
structure RE (X : Cx) (r : Ren) (H : Hp) (s : Env) (σ : L2.St) : Prop where
  len : σ.length = s.length
  at' : ∀ (i : Nat) (x : CV), s[i]? = some (some x) → ∃ v, σ[i]? = some (some v) ∧ RV X.K r H x v
section
variable {g : Names} {F : Fns} {X : Cx} {r r' : Ren} {H H' : Hp} {h h' : CH} {s : Env} {σ : L2.St}
theorem RE.step (t : RE X r H s σ) (q : RH X.prog X.w X.K r h H) (st : Step r H r' H') : RE X r' H' s σ := ⟨t.len, fun i x e => let ⟨v, a, b⟩ := t.at' i x e; ⟨v, a, b.step q st⟩⟩
theorem RE.set (t : RE X r H s σ) {i : Nat} {x : CV} {v : V} (u : RV X.K r H x v) : RE X r H (s.set i (some x)) (σ.set i (some v)) := by
  refine ⟨by simp [t.len], fun j y e => ?_⟩
  by_cases z : i = j
  · subst z
    have hl : i < s.length := by have := (List.getElem?_eq_some_iff.mp e).1; simpa using this
    rw [List.getElem?_set_self hl] at e
    cases e
    exact ⟨v, List.getElem?_set_self (by rw [t.len]; exact hl), u⟩
  · rw [List.getElem?_set_ne z] at e ⊢
    exact t.at' j y e
/-! ### small facts of names -/
theorem vis_of {sc : Scope} {x : Str} (e : visB sc x = true) : Vis sc x := by
  unfold visB at e
  split at e
  · exact .inl (by assumption)
  · exact .inr (.inl (by assumption))
  · exact .inr (.inr (by assumption))
  · cases e
theorem gl_of {x : Str} (e : glB X.env.scope x = true) : Gl X x := by
  unfold glB at e
  split at e
  · assumption
  · cases e
theorem nmOk_of {i : Nat} {x : Str} (W : Wd g F X) (e : nmOk g X.env.scope i x = true) : X.N[i]? = some x ∧ Vis X.env.scope x ∧ (x == ("__debug__" : Str)) = false ∧ (x == ("__classdict__" : Str)) = false := by
  unfold nmOk at e
  simp only [Bool.and_eq_true, decide_eq_true_eq, Bool.not_eq_true'] at e
  exact ⟨by rw [W.nN]; exact e.1.1.1, vis_of e.1.1.2, e.1.2, e.2⟩
abbrev fX (X : Cx) (s0 : Shared) (H0 : Hp) (scope : Scope) (C : Addr) (cl : List (Str × Addr)) (fp : List Addr) : Cx := X.blk s0 H0 scope (compEnvC scope cl C X.env) fp
theorem Wd.blk (W : Wd g F X) {s0 : Shared} {H0 : Hp} {scope : Scope} {C : Addr} {cl : List (Str × Addr)} {fp : List Addr} : Wd g F (fX X s0 H0 scope C cl fp) :=
  ⟨W.nN, W.nd, W.calm, W.un, W.bl, W.gl, W.fn⟩
/-! ### the claims -/
def SE (F : Fns) (X : Cx) (c : CE) (e : Expr) : Prop := ∀ (s : Env) (σ : L2.St) (r : Ren) (H : Hp) (h : CH) (v : CV) (h' : CH) (Q : VK), RE X r H s σ → RH X.prog X.w X.K r h H → evalC F c s h = some (v, h') → PostE X r H v h' Q → wE X e σ H Q
def ST (F : Fns) (X : Cx) (c : CE) (e : Expr) : Prop := ∀ (s : Env) (σ : L2.St) (r : Ren) (H : Hp) (h : CH) (b : Bool) (h' : CH) (Q : Bool → Hp → Prop), RE X r H s σ → RH X.prog X.w X.K r h H → testC F c s h = some (b, h') →
  (∀ r' H', Step r H r' H' → RH X.prog X.w X.K r' h' H' → Q b H') → wT X e σ H Q
def wA (X : Cx) : List Expr → TA
  | [] => tNil
  | e :: es => tCons (wE X e) (wA X es)
def SA (F : Fns) (X : Cx) (cs : CEs) (es : List Expr) : Prop := ∀ (s : Env) (σ : L2.St) (r : Ren) (H : Hp) (h : CH) (vs : List CV) (h' : CH) (Q : List V → Hp → Prop), RE X r H s σ → RH X.prog X.w X.K r h H → evalCs F cs s h = some (vs, h') →
  (∀ us r' H', Step r H r' H' → RH X.prog X.w X.K r' h' H' → RVs X.K r' H' vs us → Q us H') → wA X es σ H Q
def wOp (X : Cx) : Option Expr → TO
  | none => tNoPart
  | some e => tPart (wE X e)
def SO (F : Fns) (X : Cx) (c : CO1) (e : Option Expr) : Prop := ∀ (s : Env) (σ : L2.St) (r : Ren) (H : Hp) (h : CH) (o : Option Int) (h' : CH) (Q : Option Int → Hp → Prop), RE X r H s σ → RH X.prog X.w X.K r h H → evalO F c s h = some (o, h') →
  (∀ r' H', Step r H r' H' → RH X.prog X.w X.K r' h' H' → Q o H') → wOp X e σ H Q
/-- what is walked -/
def RJ (X : Cx) (r0 : Ren) (H0 : Hp) (src : Src) (J : It) : Prop := ∀ (i : Nat) (r : Ren) (H : Hp) (h : CH), Step r0 H0 r H → RH X.prog X.w X.K r h H → match src.item h i with
  | some (some x) => J.go i H ∧ ∀ v H', J.yld i H v H' → H' = H ∧ RV X.K r H x v
  | some none => J.stop i H
  | none => True
def wI' (X : Cx) (tg e : Expr) : TI := fun σ H R => ∀ (pins : List (Addr × Obj)) (s : Shared), Inv X pins σ H s → wpAny (model X.prog X.w) X.A (eval e X.env) (fun v s1 => wpAny (model X.prog X.w) X.A (pyIter v) (PIE X pins σ tg R) X.xe s1) X.xe s
theorem piW {tg e : Expr} : PI X tg e (wI' X tg e) := ⟨fun pins s σ H R I h => h pins s I⟩
theorem PI.w {tg e : Expr} {t : TI} (p : PI X tg e t) {σ : L2.St} {H : Hp} {R : It → Hp → Prop} (h : t σ H R) : wI' X tg e σ H R := fun pins s I => p.run pins s σ H R I h
def SI (F : Fns) (X : Cx) (c : CI) (e : Expr) : Prop := ∀ (tg : Expr) (s : Env) (σ : L2.St) (r : Ren) (H : Hp) (h : CH) (src : Src) (h' : CH) (R : It → Hp → Prop), RE X r H s σ → RH X.prog X.w X.K r h H → evalI F c s h = some (src, h') →
  (∀ J r' H', Step r H r' H' → RH X.prog X.w X.K r' h' H' → RJ X r' H' src J → R J H') → wI' X tg e σ H R
/-! ### no star -/
def star : Expr → Bool
  | .Starred _ _ => true | _ => false
theorem chk_star {c : CE} {e : Expr} {sc : Scope} (hc : chkE g sc c e = true) : star e = false := by
  cases e with
  | Starred _ _ => cases c <;> simp [chkE, asName, asConst, asBin, asCmp, asBool, asUn, asIf, asTup, asLst, isDct0, asSub, asCall, asMeth, asComp] at hc
  | _ => rfl
theorem star_each {e : Expr} {es : List Expr} {env : PySem.Env} (hs : star e = false) : starEach (e :: es) env = (false, eval e env) :: starEach es env := by
  cases e <;> first | rfl | (simp [star] at hs)
theorem chkEs_star {sc : Scope} : ∀ {cs : CEs} {l : List Expr}, chkEs g sc cs l = true → ∀ e ∈ l, star e = false
  | .nil, l, hc, e, he => by
    simp only [chkEs, List.isEmpty_iff] at hc
    subst hc
    cases he
  | .cons c cs, [], hc, _, _ => by simp [chkEs] at hc
  | .cons c cs, e :: es, hc, x, hx => by
    simp only [chkEs, Bool.and_eq_true] at hc
    rcases List.mem_cons.mp hx with z | z
    · rw [z]; exact chk_star hc.1
    · exact chkEs_star hc.2 x z
theorem any_star {env : PySem.Env} {pos : Pos} : ∀ {es : List Expr}, (∀ e ∈ es, star e = false) → (starEach es env).any (·.1) = false
  | [], _ => rfl
  | e :: es, hs => by
    rw [star_each (hs e List.mem_cons_self)]
    simp only [List.any_cons, any_star (es := es) (pos := pos) fun x hx => hs x (List.mem_cons_of_mem _ hx), Bool.or_false]
theorem paW : ∀ {es : List Expr}, (∀ e ∈ es, star e = false) → PA X es (wA X es)
  | [], _ => pa_nil
  | e :: es, hs => pa_cons peW (paW fun x hx => hs x (List.mem_cons_of_mem _ hx)) (star_each (hs e List.mem_cons_self))
/-- a test's value -/
theorem test_eval {c : CE} {b : Bool} (e : testC F c s h = some (b, h')) : evalC F c s h = some (.bl b, h') := by
  cases c with
  | and a d =>
    simp only [testC, evalC] at e ⊢
    cases e1 : testC F a s h with
    | none => rw [e1] at e; cases e
    | some p =>
      rw [e1] at e
      simp only [Option.bind_some] at e ⊢
      split at e
      · rw [if_pos (by assumption), e]; rfl
      · rw [if_neg (by assumption)]; cases e; rfl
  | or a d =>
    simp only [testC, evalC] at e ⊢
    cases e1 : testC F a s h with
    | none => rw [e1] at e; cases e
    | some p =>
      rw [e1] at e
      simp only [Option.bind_some] at e ⊢
      split at e
      · rw [if_pos (by assumption)]; cases e; rfl
      · rw [if_neg (by assumption), e]; rfl
  | not a =>
    simp only [testC, evalC, Option.map_eq_some_iff] at e ⊢
    obtain ⟨p, e1, e2⟩ := e
    cases e2
    exact ⟨p, e1, rfl⟩
  | lit v => cases v <;> simp_all [testC, evalC]
  | var i =>
    simp only [testC, evalC] at e ⊢
    split at e
    · cases e; simp_all
    · cases e
  | cmp o a d =>
    simp only [testC, evalC, Option.bind_eq_some_iff, Option.map_eq_some_iff] at e ⊢
    obtain ⟨p, e1, q, e2, k, e3, e4⟩ := e
    cases e4
    exact ⟨p, e1, q, e2, _, e3, rfl⟩
  | cmp2 o o2 a b c =>
    simp only [testC, evalC, Option.bind_eq_some_iff] at e ⊢
    obtain ⟨p, e1, q, e2, k, e3, e4⟩ := e
    refine ⟨p, e1, q, e2, k, e3, ?_⟩
    split at e4
    · rw [if_pos (by assumption)]
      simp only [Option.bind_eq_some_iff, Option.map_eq_some_iff] at e4 ⊢
      obtain ⟨u, f1, k2, f2, f3⟩ := e4
      cases f3
      exact ⟨u, f1, _, f2, rfl⟩
    · rw [if_neg (by assumption)]; cases e4; rfl
  | cmp3 o o2 o3 a b c d =>
    simp only [testC, evalC, Option.bind_eq_some_iff] at e ⊢
    obtain ⟨p, e1, q, e2, k, e3, e4⟩ := e
    refine ⟨p, e1, q, e2, k, e3, ?_⟩
    split at e4
    · rw [if_pos (by assumption)]
      simp only [Option.bind_eq_some_iff] at e4 ⊢
      obtain ⟨u, f1, k2, f2, f3⟩ := e4
      refine ⟨u, f1, k2, f2, ?_⟩
      split at f3
      · rw [if_pos (by assumption)]
        simp only [Option.bind_eq_some_iff, Option.map_eq_some_iff] at f3 ⊢
        obtain ⟨u2, g1, k3, g2, g3⟩ := f3
        cases g3
        exact ⟨u2, g1, _, g2, rfl⟩
      · rw [if_neg (by assumption)]; cases f3; rfl
    · rw [if_neg (by assumption)]; cases e4; rfl
  | call f es =>
    simp only [testC, evalC, Option.bind_eq_some_iff] at e ⊢
    obtain ⟨p, e1, q, e2, e3⟩ := e
    refine ⟨p, e1, ?_⟩
    split at e3
    · rename_i b2 hb
      cases e3
      rw [e2, ← hb]
    · cases e3
  | bi f es =>
    simp only [testC, evalC, Option.bind_eq_some_iff] at e ⊢
    obtain ⟨p, e1, q, e2, e3⟩ := e
    refine ⟨p, e1, ?_⟩
    split at e3
    · rename_i b2 hb
      cases e3
      rw [e2, ← hb]
    · cases e3
  | _ => simp [testC] at e
end
end TH

/-! Comprehensions. -/
namespace TH
open PySem PySem.Spec PyProof.Rows L2
section
variable {g : Names} {F : Fns} {X : Cx} {r r' : Ren} {H H' : Hp} {h h' : CH} {s : Env} {σ : L2.St}
/-- a reading is sound for a clean expression, a clean test -/
def RdE (F : Fns) (X : Cx) (c : CE) (t : TE) : Prop := ∀ (s : Env) (σ : L2.St) (r : Ren) (H : Hp) (h : CH) (v : CV) (h' : CH) (Q : VK), RE X r H s σ → RH X.prog X.w X.K r h H → evalC F c s h = some (v, h') → PostE X r H v h' Q → t σ H Q
def RdT (F : Fns) (X : Cx) (c : CE) (t : TT) : Prop := ∀ (s : Env) (σ : L2.St) (r : Ren) (H : Hp) (h : CH) (b : Bool) (h' : CH) (Q : Bool → Hp → Prop), RE X r H s σ → RH X.prog X.w X.K r h H → testC F c s h = some (b, h') →
  (∀ r' H', Step r H r' H' → RH X.prog X.w X.K r' h' H' → Q b H') → t σ H Q
theorem wipe1 (σ : L2.St) (i : Nat) : L2.wipe σ [i] = σ.set i none := rfl
def compB (F : Fns) (elt cond : CE) (i : Nat) (s : Env) : CV → List CV → CH → Option (List CV × CH) := fun x acc h => (testC F cond (s.set i (some x)) h).bind fun b => if b.1 = true then (evalC F elt (s.set i (some x)) b.2).map fun y => (acc ++ [y.1], y.2) else some (acc, b.2)
theorem comp_loop {elt cond : CE} {i : Nat} {src : Src} {J : It} {te : TE} {tt : TT} {acc2 : List CV} {h2 : CH} {n : Nat} {Q : VK} (rj : RJ X r H src J) (q : RH X.prog X.w X.K r h H) (re : RE X r H s σ) (he : RdE F X elt te) (ht : RdT F X cond tt)
    (hn : n ≤ lim) (e : loopGo src (compB F elt cond i s) n 0 [] h = some (acc2, h2)) (D : Addr) (hD : H D = none)
    (post : ∀ r' H' av, Step r H r' H' → RH X.prog X.w X.K r' h2 H' → D ∉ r' → H' D = some (.lst av) → RVs X.K r' H' acc2 av → Q (.ref D) H') :
    ∃ W : Nat → Nat → Hp → Prop, (∃ m, W 0 m (upd H D (.lst []))) ∧ ∀ j m H, W j m H →
      (J.stop j H ∧ Q (.ref D) H) ∨ (J.go j H ∧ ∃ Nx : Hp → Prop, (∀ H', Nx H' → ∃ m', m' < m ∧ W (j + 1) m' H') ∧ ∀ x H', J.yld j H x H' → gName i x (L2.wipe σ [i]) H' fun σ2 H2 => L2.wipe σ2 [i] = L2.wipe σ [i] ∧ tt σ2 H2 fun b H3 =>
        if b = true then te σ2 H3 fun y H4 => ∃ acc, H4 D = some (.lst acc) ∧ acc.length < sizeLine ∧ Nx (upd H4 D (.lst (acc ++ [y]))) else Nx H3) := by
  have ntD : ∀ {H' : Hp} {av : List V}, H' D = some (.lst av) → ∀ u, Kp u → H' D ≠ some u := fun e u k z => by rw [e] at z; cases k <;> cases z
  refine ⟨fun j k H3 => ∃ r3 h3 acc av, Step r H r3 H3 ∧ RH X.prog X.w X.K r3 h3 H3 ∧ D ∉ r3 ∧ H3 D = some (.lst av) ∧ RVs X.K r3 H3 acc av ∧ acc.length ≤ j ∧ j + k ≤ lim ∧ loopGo src (compB F elt cond i s) k j acc h3 = some (acc2, h2),
    ⟨n, r, h, [], [], Step.laid hD, q.laid hD, q.fresh hD, upd_same, .nil, Nat.le_refl _, by omega, e⟩, ?_⟩
  rintro j k H3 ⟨r3, h3, acc, av, st, q3, nD, eD, ra, la, lj, e3⟩
  have rjj := rj j r3 H3 h3 st q3
  cases k with
  | zero =>
    unfold loopGo at e3
    split at e3
    · rename_i hi
      cases e3
      rw [hi] at rjj
      exact .inl ⟨rjj, post r3 H3 av st q3 nD eD ra⟩
    · cases e3
  | succ k =>
    unfold loopGo at e3
    split at e3
    · rename_i x hi
      rw [hi] at rjj
      obtain ⟨go, yl⟩ := rjj
      refine .inr ⟨go, fun H4 => ∃ r3 h3 acc av, Step r H r3 H4 ∧ RH X.prog X.w X.K r3 h3 H4 ∧ D ∉ r3 ∧ H4 D = some (.lst av) ∧ RVs X.K r3 H4 acc av ∧ acc.length ≤ j + 1 ∧ j + 1 + k ≤ lim ∧ loopGo src (compB F elt cond i s) k (j + 1) acc h3 = some (acc2, h2),
        fun H4 z => ⟨k, Nat.lt_succ_self _, z⟩, fun v H4 y => ?_⟩
      obtain ⟨rfl, rv⟩ := yl v H4 y
      rw [wipe1]
      unfold gName
      rw [List.set_set]
      refine ⟨by rw [wipe1, List.set_set], ?_⟩
      rw [Option.bind_eq_some_iff] at e3
      obtain ⟨⟨acc', h5⟩, e4, e5⟩ := e3
      unfold compB at e4
      rw [Option.bind_eq_some_iff] at e4
      obtain ⟨⟨b, h6⟩, e6, e7⟩ := e4
      have re3 := ((re.step q st).set (i := i) rv)
      refine ht _ _ r3 H4 h3 b h6 _ re3 q3 e6 fun r6 H6 st6 q6 => ?_
      have eD6 := st6.keep D _ eD nD
      have nD6 : D ∉ r6 := fun z => by have := st6.new D z nD; rw [eD] at this; cases this
      cases b with
      | false =>
        rw [if_neg Bool.false_ne_true]
        simp only [Bool.false_eq_true, if_false, Option.some.injEq, Prod.mk.injEq] at e7
        obtain ⟨rfl, rfl⟩ := e7
        exact ⟨r6, h6, acc, av, st.trans st6, q6, nD6, eD6, ra.step q3 st6, by omega, by omega, e5⟩
      | true =>
        rw [if_pos rfl]
        simp only [if_true, Option.map_eq_some_iff] at e7
        obtain ⟨⟨y7, h7⟩, e7, e8⟩ := e7
        simp only [Prod.mk.injEq] at e8
        obtain ⟨rfl, rfl⟩ := e8
        refine he _ _ r6 H6 h6 y7 h7 _ (re3.step q3 st6) q6 e7 fun v8 r8 H8 st8 q8 rv8 => ?_
        have eD8 := st8.keep D _ eD6 nD6
        have nD8 : D ∉ r8 := fun z => by have := st8.new D z nD6; rw [eD6] at this; cases this
        have hl : av.length = acc.length := ra.length.symm
        refine ⟨av, eD8, by rw [← lim_eq]; omega, r8, h7, acc ++ [y7], av ++ [v8], ?_, q8.other (ntD eD8) nD8, nD8, upd_same, ?_, by simp; omega, by omega, e5⟩
        · have st9 := st.trans (st6.trans st8)
          exact ⟨st9.pre, fun a o e n => by rw [upd_ne (ne_of_none e hD)]; exact st9.keep a o e n, fun a o u e => by rw [upd_ne (ne_of_none e hD)]; exact st9.frz a o u e, st9.new⟩
        · refine RVs.keep (fun a u k z => ?_) (fun _ _ z => z) (((ra.step q3 st6).step q6 st8).append (.cons rv8 .nil))
          rw [upd_ne (fun y => ntD eD8 u k (by rw [← y]; exact z))]; exact z
    · cases e3
/-- the new list becomes a cell -/
theorem comp_post {v : CV} {h2 h3 : CH} {acc2 : List CV} {Q : VK} {r0 : Ren} {H0 : Hp} (q0 : RH X.prog X.w X.K r0 h' H0) (st0 : Step r0 H0 r H) (hD' : H D = none) (e : newc h2 (.lst acc2) = some (v, h3)) (p : PostE X r0 H0 v h3 Q) :
    ∀ r' H' av, Step r H r' H' → RH X.prog X.w X.K r' h2 H' → D ∉ r' → H' D = some (.lst av) → RVs X.K r' H' acc2 av → Q (.ref D) H' := by
  intro r' H' av st q nD eD ra
  obtain ⟨rfl, rfl⟩ := newc_eq e
  have ix : ∀ (n : Nat) (a : Addr), r'[n]? = some a → (r' ++ [D])[n]? = some a := fun n a z => by
    rw [List.getElem?_append_left (List.getElem?_eq_some_iff.mp z).1]; exact z
  have st2 : Step r H (r' ++ [D]) H' := by
    refine ⟨?_, st.keep, st.frz, fun a h1 h2 => ?_⟩
    · obtain ⟨t, e⟩ := st.pre
      exact ⟨t ++ [D], by rw [e, List.append_assoc]⟩
    · rcases List.mem_append.mp h1 with z | z
      · exact st.new a z h2
      · rw [List.mem_singleton.mp z]; exact hD'
  refine p _ (r' ++ [D]) H' (st0.trans st2) (q.adopt nD ⟨av, eD, ra.keep (fun _ _ _ z => z) ix⟩) (.ref ?_)
  rw [q.len]; simp
end
end TH

set_option maxHeartbeats 4000000
/-! Expressions: by induction. -/
namespace TH
open PySem PySem.Spec PyProof.Rows L2
section
variable {g : Names} {F : Fns}
theorem rv_bl {X : Cx} {r : Ren} {H : Hp} {b : Bool} {v : V} (u : RV X.K r H (.bl b) v) : v = .bl b := by cases u; rfl
theorem litB_pe {X : Cx} {v : CV} {c : Const} {k : Nat} {p : Pos} (e : litB v c = true) : ∃ w, PE X (.Constant c k p) (tC w) ∧ ∀ r H, RV X.K r H v w := by
  unfold litB at e
  split at e
  · exact ⟨.non, pe_non, fun _ _ => .non⟩
  · rw [beq_iff_eq] at e; subst e
    exact ⟨.bl _, pe_bl, fun _ _ => .bl _⟩
  · rw [beq_iff_eq] at e; subst e
    exact ⟨.int _, pe_int, fun _ _ => .int _⟩
  · rw [decide_eq_true_eq] at e; subst e
    exact ⟨.str _, pe_str, fun _ _ => .str _⟩
  · cases e
theorem opB_eq {o : BOp} {eo : Operator} (e : opB o eo = true) : eo = opOf o := by
  cases o <;> cases eo <;> first | rfl | (simp [opB] at e)
theorem coB_eq {o : COp} {eo : CmpOp} (e : coB o eo = true) : eo = cmpOf o := by
  cases o <;> cases eo <;> first | rfl | (simp [coB] at e)
theorem marks {op : CmpOp} {b : Expr} (e : isSet b = false) : behindInMarks op b = false := by
  cases b <;> first | rfl | (simp [isSet] at e)
theorem lastM2 {o p : CmpOp} {b c : Expr} (e : isSet c = false) : lastMarks [o, p] [b, c] = false := by
  show behindInMarks p c = false
  exact marks e
theorem lastM3 {o p q : CmpOp} {b c d : Expr} (e : isSet d = false) : lastMarks [o, p, q] [b, c, d] = false := by
  show behindInMarks q d = false
  exact marks e
theorem slice_of {X : Cx} {e : Expr} (h : isSl e = false) : PlainIx e := by
  intro o i
  cases e <;> first | rfl | (simp [isSl, asSlc] at h)
theorem fold_of {X : Cx} {e : Expr} (h : isSet e = false) : ∀ x, foldedSetIterable e X.env x = pure x := by
  intro x
  cases e <;> first | rfl | (simp [isSet] at h)
/-- as a test: what no rule of its own takes -/
def plainT : Expr → Bool
  | .UnaryOp .Not _ _ => false
  | .BoolOp _ _ _ => false
  | .IfExp _ _ _ _ => false
  | .Compare _ _ _ _ => false
  | _ => true
theorem isTrue_of {X : Cx} {e : Expr} (h : plainT e = true) : ∀ whole, isTrue e X.env whole = (do let v ← whole; standAt e.pos; holding [v] (truthy v)) := by
  intro whole
  cases e <;> first | rfl | (simp [plainT] at h; done) | skip
  rename_i op a p
  cases op <;> first | rfl | (simp [plainT] at h)
theorem st_plain {X : Cx} {c : CE} {e : Expr} (hp : plainT e = true) (se : SE F X c e) : ST F X c e := by
  intro s σ r H h b h' Q re q ev post
  refine PT.w (pt_val (peW (X := X) (e := e)) (isTrue_of hp)) ?_
  refine se s σ r H h _ h' _ re q (test_eval ev) fun v r' H' st q' rv => ?_
  rw [rv_bl rv]
  exact ⟨b, rfl, post r' H' st q'⟩
theorem bi_boot (f : Bi) : bootBuiltins (Str.ofString (biN f)) = some (biOf f) := by
  cases f with
  | isi t => cases t <;> decide +kernel
  | _ => decide +kernel
theorem bi_bl (f : Bi) : Str.ofString (biN f) ∈ blNames := by
  cases f with
  | isi t => cases t <;> decide +kernel
  | _ => decide +kernel
theorem bi_nm (f : Bi) : Str.ofString (biN f) ≠ "__name__" ∧ (Str.ofString (biN f) == ("__debug__" : Str)) = false := by
  cases f with
  | isi t => cases t <;> decide +kernel
  | _ => decide +kernel
theorem ty_boot (t : Ty) : bootBuiltins (Str.ofString (tyN t)) = some (.type (tyN t)) := by
  cases t <;> decide +kernel
theorem ty_bl (t : Ty) : Str.ofString (tyN t) ∈ blNames := by
  cases t <;> decide +kernel
theorem ty_nm (t : Ty) : Str.ofString (tyN t) ≠ "__name__" ∧ (Str.ofString (tyN t) == ("__debug__" : Str)) = false := by
  cases t <;> decide +kernel
/-- a call of a built-in -/
theorem pe_bi {X : Cx} {f : Bi} {l : List Expr} {p pos : Pos} {t : TA} (W : Wd g F X) (hg : Gl X (Str.ofString (biN f))) (ha : PA X l t) (hs : ∀ e ∈ l, star e = false) (hl : l ≠ []) (hf : ∀ t, f ≠ .isi t) :
    PE X (.Call (.Name (Str.ofString (biN f)) p) l [] pos) (tCB (wC X (biOf f)) t) := by
  cases l with
  | nil => exact absurd rfl hl
  | cons e es =>
    have h1 := star_each (es := es) (env := X.env) (hs e List.mem_cons_self)
    have h2 : (backTo pos (starEach es X.env)).any (·.1) = false := by
      have := any_star (env := X.env) (pos := pos) (es := es) fun x hx => hs x (List.mem_cons_of_mem _ hx)
      unfold backTo
      rw [List.any_map]
      exact this
    cases e0 : biOf f with
    | builtin id =>
      exact pe_callB callW hg (W.bl _ (bi_bl f)) (by rw [bi_boot, e0]) ha (bi_nm f).1 (bi_nm f).2 h1 h2
    | type T =>
      exact pe_callTy callW hg (W.bl _ (bi_bl f)) (by rw [bi_boot, e0]) ha (bi_nm f).1 (bi_nm f).2 h1 h2
    | _ => cases f <;> simp [biOf] at e0
theorem isi_ok {X : Cx} {r : Ren} {H : Hp} {h : CH} {t : Ty} {a : CV} {v : V} {b : Bool} {Q : VK} (q : RH X.prog X.w X.K r h H) (u : RV X.K r H a v) (e : isiV t a h = some b) (p : PostE X r H (.bl b) h Q) : wC X (.builtin "isinstance") [v, .ty (tyN t)] H Q := by
  have fin : ∀ {T : String}, TyX X.K H v (.type T) → kitB T (tyN t) = some b → wC X (.builtin "isinstance") [v, .ty (tyN t)] H Q := fun ty k =>
    CallR.w call_isi ⟨v, .ty (tyN t), _, _, b, rfl, .ty _, ty, kit_ty k, p.same q (.bl b)⟩
  cases u with
  | non => cases t <;> simp only [isiV, Option.some.injEq] at e <;> subst e <;> exact fin (.base .non) (by decide +kernel)
  | bl x => cases t <;> simp only [isiV, Option.some.injEq] at e <;> subst e <;> exact fin (.base (.bl x)) (by decide +kernel)
  | int x => cases t <;> simp only [isiV, Option.some.injEq] at e <;> subst e <;> exact fin (.base (.int x)) (by decide +kernel)
  | str x => cases t <;> simp only [isiV, Option.some.injEq] at e <;> subst e <;> exact fin (.base (.str _)) (by decide +kernel)
  | tup e1 _ => cases t <;> simp only [isiV, Option.some.injEq] at e <;> subst e <;> exact fin (.base (.tup e1)) (by decide +kernel)
  | lst z => cases t <;> cases e
  | @ref n a z =>
    have lst : ∀ {xs : List CV}, h[n]? = some (.lst xs) → TyX X.K H (.ref a) (.type "list") := fun hm => by
      obtain ⟨vs, g, _⟩ := q.ob _ _ _ hm z
      exact .base (.lst g)
    have frz : ∀ {xs : List CV}, h[n]? = some (.frz xs) → TyX X.K H (.ref a) (.type "list") := fun hm => by
      obtain ⟨o, vs, g, _⟩ := q.ob _ _ _ hm z
      exact .base (.frz g)
    have dct : ∀ {xs : List (CV × CV)}, h[n]? = some (.dct xs) → TyX X.K H (.ref a) (.type "dict") := fun hm => by
      obtain ⟨u, g, d⟩ := q.ob _ _ _ hm z
      rcases d with ⟨es, rfl, _⟩ | ⟨es, rfl, _⟩
      · exact .base (.dK g)
      · exact .base (.dT g)
    cases t <;> simp only [isiV] at e <;> split at e <;> first
      | (cases e; exact fin (lst (by assumption)) (by decide +kernel))
      | (cases e; exact fin (frz (by assumption)) (by decide +kernel))
      | (cases e; exact fin (dct (by assumption)) (by decide +kernel))
      | (cases e; done)
theorem cmp_PE {X : Cx} {o : COp} {a b : Expr} {pos : Pos} (hs : isSet b = false) : PE X (.Compare a [cmpOf o] [b] pos) (tOp (wO X (compareOp (cmpOf o))) (wE X a) (wE X b)) := pe_cmpR opW peW peW (marks hs)
theorem pe_chain3 {X : Cx} {op op' op2 : CmpOp} {r r' r2 : R2} {a b c d : Expr} {ta tb tc td : TE} {pos : Pos} (ho : OpR X (compareOp op) r) (ho' : OpR X (compareOp op') r') (ho2 : OpR X (compareOp op2) r2) (ha : PE X a ta) (hb : PE X b tb) (hc : PE X c tc) (hd : PE X d td)
    (hm : lastMarks [op, op', op2] [b, c, d] = false) : PE X (.Compare a [op, op', op2] [b, c, d] pos) (fun σ H Q => ta σ H fun x H1 => tb σ H1 fun y H2 => r x y H2 fun z H3 => ∃ k, z = .bl k ∧
      (if k = true then tc σ H3 fun w H4 => r' y w H4 fun z2 H5 => ∃ k2, z2 = .bl k2 ∧ (if k2 = true then td σ H5 fun w2 H6 => r2 w w2 H6 Q else Q (.bl false) H5) else Q (.bl false) H3)) := by
  refine ⟨fun pins s σ H Q I h => ?_⟩
  refine Compare_chain (thn (ha.run pins s σ H _ I h) fun v s1 ⟨x, H1, I1, r1, q1⟩ => chain_link (thn (hb.run pins s1 σ H1 _ I1 q1) fun u s2 ⟨y, H2, I2, r2', q2⟩ =>
    thn (ho pins s2 σ H2 x y v u _ I2 r1 r2' q2) fun d' s3 ⟨z, H3, I3, r3, k, e, q3⟩ => ?_)) hm
  subst e
  cases r3
  refine wpAny_truthy_bool ?_
  cases k with
  | false => exact ite_ff ⟨.bl false, H3, I3, rfl, q3⟩
  | true =>
    refine ite_tt (chain_link (thn (hc.run pins s3 σ H3 _ I3 q3) fun w' s4 ⟨w, H4, I4, r4, q4⟩ => thn (ho' pins s4 σ H4 y w u w' _ I4 r2' r4 q4) fun d2 s5 ⟨z2, H5, I5, r5, k2, e2, q5⟩ => ?_))
    subst e2
    cases r5
    refine wpAny_truthy_bool ?_
    cases k2 with
    | false => exact ite_ff ⟨.bl false, H5, I5, rfl, q5⟩
    | true => exact ite_tt (chain_last (thn (hd.run pins s5 σ H5 _ I5 q5) fun w2' s6 ⟨w2, H6, I6, r6, q6⟩ => ho2 pins s6 σ H6 w w2 w' w2' Q I6 r4 r6 q6))
theorem pt_chain3 {X : Cx} {op op' op2 : CmpOp} {r r' r2 : R2} {a b c d : Expr} {ta tb tc td : TE} {pos : Pos} (ho : OpR X (compareOp op) r) (ho' : OpR X (compareOp op') r') (ho2 : OpR X (compareOp op2) r2) (ha : PE X a ta) (hb : PE X b tb) (hc : PE X c tc) (hd : PE X d td)
    (hm : lastMarks [op, op', op2] [b, c, d] = false) : PT X (.Compare a [op, op', op2] [b, c, d] pos) (fun σ H Q => ta σ H fun x H1 => tb σ H1 fun y H2 => r x y H2 fun z H3 => ∃ k, z = .bl k ∧
      (if k = true then tc σ H3 fun w H4 => r' y w H4 fun z2 H5 => ∃ k2, z2 = .bl k2 ∧ (if k2 = true then td σ H5 fun w2 H6 => r2 w w2 H6 fun z3 H7 => ∃ k3, z3 = .bl k3 ∧ Q k3 H7 else Q false H5) else Q false H3)) := by
  refine ⟨fun pins s σ H Q I h => ?_⟩
  refine isTrue_chain (thn (ha.run pins s σ H _ I h) fun v s1 ⟨x, H1, I1, r1, q1⟩ => test_link (thn (hb.run pins s1 σ H1 _ I1 q1) fun u s2 ⟨y, H2, I2, r2', q2⟩ =>
    thn (ho pins s2 σ H2 x y v u _ I2 r1 r2' q2) fun d' s3 ⟨z, H3, I3, r3, k, e, q3⟩ => ?_)) hm
  subst e
  cases r3
  refine wpAny_truthy_bool ?_
  cases k with
  | false => exact ite_ff ⟨H3, I3, q3⟩
  | true =>
    refine ite_tt (test_link (thn (hc.run pins s3 σ H3 _ I3 q3) fun w' s4 ⟨w, H4, I4, r4, q4⟩ => thn (ho' pins s4 σ H4 y w u w' _ I4 r2' r4 q4) fun d2 s5 ⟨z2, H5, I5, r5, k2, e2, q5⟩ => ?_))
    subst e2
    cases r5
    refine wpAny_truthy_bool ?_
    cases k2 with
    | false => exact ite_ff ⟨H5, I5, q5⟩
    | true =>
      refine ite_tt (test_last (thn (hd.run pins s5 σ H5 _ I5 q5) fun w2' s6 ⟨w2, H6, I6, r6, q6⟩ => thn (ho2 pins s6 σ H6 w w2 w' w2' _ I6 r4 r6 q6) fun d3 s7 ⟨z3, H7, I7, r7, k3, e3, q7⟩ => ?_))
      subst e3
      cases r7
      exact wpAny_truthy_bool ⟨H7, I7, q7⟩
end
end TH

set_option maxHeartbeats 4000000
/-! Expressions: by induction. -/
namespace TH
open PySem PySem.Spec PyProof.Rows L2
section
variable {g : Names} {F : Fns}
theorem evalCs_len {sc : Scope} : ∀ {cs : CEs} {s : Env} {h : CH} {vs : List CV} {h1 : CH} {l : List Expr}, evalCs F cs s h = some (vs, h1) → chkEs g sc cs l = true → vs.length = l.length
  | .nil, s, h, vs, h1, l, e, hc => by
    simp only [evalCs, Option.some.injEq, Prod.mk.injEq] at e
    simp only [chkEs, List.isEmpty_iff] at hc
    rw [← e.1, hc]; rfl
  | .cons c cs, s, h, vs, h1, [], e, hc => by simp [chkEs] at hc
  | .cons c cs, s, h, vs, h1, x :: l, e, hc => by
    simp only [evalCs, Option.bind_eq_some_iff, Option.map_eq_some_iff] at e
    obtain ⟨p, e1, q, e2, e3⟩ := e
    simp only [chkEs, Bool.and_eq_true] at hc
    cases e3
    simp only [List.length_cons]
    rw [evalCs_len e2 hc.2]
theorem call_step {X : Cx} {f : Nat} {es : CEs} {l : List Expr} {x : Str} {p pos : Pos} (W : Wd g F X) (sa : SA F X es l) (hk : chkEs g X.env.scope es l = true)
    (hc : (match g.fn.lookup f with | some p => decide (x = Str.ofString p.1) && decide (l.length = p.2) | none => false) = true) (hg : glB X.env.scope x = true) (hd : (x == ("__debug__" : Str)) = false) : SE F X (.call f es) (.Call (.Name x p) l [] pos) := by
  have hs := chkEs_star hk
  split at hc
  · rename_i nm hf
    rw [Bool.and_eq_true, decide_eq_true_eq, decide_eq_true_eq] at hc
    obtain ⟨rfl, hl⟩ := hc
    obtain ⟨k, fa, fd, ps, hm, kp, rm, bd, ok⟩ := W.fn f nm hf
    intro s σ r H h v h' Q re q ev post
    simp only [evalC, Option.bind_eq_some_iff] at ev
    obtain ⟨⟨vs, h1⟩, e1, e2⟩ := ev
    have body : wA X l σ H fun us H1 => spC X.prog X.w X.K nm.2 (F f) (us ++ []) H1 Q E0 := by
      refine sa s σ r H h vs h1 _ re q e1 fun us r1 H1 st q1 rv => ?_
      rw [List.append_nil]
      refine ⟨?_, r1, h1, vs, v, h', q1, rv, e2, fun v2 r2 H2 st2 q2 rv2 => post v2 r2 H2 (st.trans st2) q2 rv2⟩
      rw [← rv.length, evalCs_len e1 hk, hl]
    cases l with
    | nil => exact PE.w (pe_call0 ok rm (gl_of hg) hm kp bd .nil pass0 hd) body
    | cons e es' =>
      have h1 := star_each (es := es') (env := X.env) (hs e List.mem_cons_self)
      have h2 : (backTo pos (starEach es' X.env)).any (·.1) = false := by
        have := any_star (env := X.env) (pos := pos) (es := es') fun x hx => hs x (List.mem_cons_of_mem _ hx)
        unfold backTo
        rw [List.any_map]
        exact this
      exact PE.w (pe_call ok rm (gl_of hg) hm kp bd .nil pass0 (paW hs) hd h1 h2) body
  · cases hc
theorem bi_step {X : Cx} {f : Bi} {es : CEs} {l : List Expr} {p pos : Pos} (W : Wd g F X) (sa : SA F X es l) (hk : chkEs g X.env.scope es l = true) (hn : l ≠ []) (hf : ∀ t, f ≠ .isi t) (hg : glB X.env.scope (Str.ofString (biN f)) = true) : SE F X (.bi f es) (.Call (.Name (Str.ofString (biN f)) p) l [] pos) := by
  intro s σ r H h v h' Q re q ev post
  simp only [evalC, Option.bind_eq_some_iff] at ev
  obtain ⟨⟨vs, h1⟩, e1, e2⟩ := ev
  refine PE.w (pe_bi W (gl_of hg) (paW (chkEs_star hk)) (chkEs_star hk) hn hf) ?_
  refine sa s σ r H h vs h1 _ re q e1 fun us r1 H1 st q1 rv => ?_
  exact bi_ok W.calm W.un q1 hf rv e2 fun v2 r2 H2 st2 q2 rv2 => post v2 r2 H2 (st.trans st2) q2 rv2
theorem isi_step {X : Cx} {t : Ty} {es : CEs} {ea : Expr} {p p2 pos : Pos} (W : Wd g F X) (sa : SA F X es [ea]) (hk : chkEs g X.env.scope es [ea] = true) (hg : glB X.env.scope "isinstance" = true) (hg2 : glB X.env.scope (Str.ofString (tyN t)) = true) :
    SE F X (.bi (.isi t) es) (.Call (.Name "isinstance" p) [ea, .Name (Str.ofString (tyN t)) p2] [] pos) := by
  intro s σ r H h v h' Q re q ev post
  simp only [evalC, Option.bind_eq_some_iff] at ev
  obtain ⟨⟨vs, h1⟩, e1, e2⟩ := ev
  have hs := chkEs_star hk
  have hlen := evalCs_len e1 hk
  have hb : PE X (.Name (Str.ofString (tyN t)) p2) (tC (.ty (tyN t))) := pe_bltn (gl_of hg2) (W.bl _ (ty_bl t)) (ty_boot t) rfl (ty_nm t).1 (ty_nm t).2
  refine PE.w (pe_callB (id := "isinstance") (callW (X := X)) (gl_of hg) (W.bl _ (by decide +kernel)) (by decide +kernel) (pa_cons (peW (X := X) (e := ea)) (pa_cons hb pa_nil) (star_each (hs ea List.mem_cons_self))) (by decide +kernel) (by decide +kernel) (star_each (hs ea List.mem_cons_self)) rfl) ?_
  obtain ⟨a, rfl⟩ : ∃ a, vs = [a] := by
    cases vs with
    | nil => simp at hlen
    | cons a t =>
      cases t with
      | nil => exact ⟨a, rfl⟩
      | cons b t => simp at hlen
  refine sa s σ r H h _ h1 (fun us H1 => wC X (.builtin "isinstance") (us ++ [.ty (tyN t)]) H1 Q) re q e1 fun us r1 H1 st q1 rv => ?_
  obtain ⟨u, rfl, rv1⟩ := rv.one
  simp only [biV, Option.map_eq_some_iff] at e2
  obtain ⟨b, e2, e3⟩ := e2
  cases e3
  exact isi_ok q1 rv1 e2 fun v2 r2 H2 st2 q2 rv2 => post v2 r2 H2 (st.trans st2) q2 rv2
theorem attr_base {X : Cx} {o : Expr} {nm : Str} (h : call0 o = false) : attributeBase o nm X.env (eval o X.env) = eval o X.env := by
  cases o <;> try rfl
  rename_i fn args kw p
  cases fn <;> try rfl
  cases args with
  | cons _ _ => rfl
  | nil =>
    cases kw with
    | cons _ _ => rfl
    | nil => simp [call0, asCall] at h
theorem me_step {X : Cx} {m : Me} {o : CE} {es : CEs} {eo : Expr} {l : List Expr} {ap pos : Pos} (W : Wd g F X) (so : SE F X o eo) (sa : SA F X es l) (hk : chkEs g X.env.scope es l = true) (hb : call0 eo = false) (hp : (ap.endLine == pos.line) = true) (hl : l.length ≤ 5) : SE F X (.me m o es) (.Call (.Attribute eo (Str.ofString (meN m)) ap) l [] pos) := by
  intro s σ r H h v h' Q re q ev post
  simp only [evalC, Option.bind_eq_some_iff] at ev
  obtain ⟨⟨ov, h1⟩, e1, e2⟩ := ev
  split at e2
  · rename_i hr
    rw [Option.bind_eq_some_iff] at e2
    obtain ⟨⟨vs, h2⟩, e2, e3⟩ := e2
    have hs := chkEs_star hk
    have body : tMe X (Str.ofString (meN m)) (wE X eo) (wA X l) σ H Q := by
      refine so s σ r H h ov h1 _ re q e1 fun x r1 H1 st q1 rv => ?_
      refine ⟨meT2 m ov, meI2 m ov, meId m ov, recv_ty q1 rv hr, ?_⟩
      refine sa s σ r1 H1 h1 vs h2 _ (re.step q st) q1 e2 fun us r2 H2 st2 q2 rvs => ?_
      exact me_ok W.un q2 (rv.step q1 st2) rvs e3 fun v2 r3 H3 st3 q3 rv3 => post v2 r3 H3 (st.trans (st2.trans st3)) q3 rv3
    cases l with
    | nil => exact PE.w (pe_mw0 peW (attr_base hb) hp) body
    | cons e es' =>
      have h1 := star_each (es := es') (env := X.env) (hs e List.mem_cons_self)
      have h2 : (backTo pos (starEach es' X.env)).any (·.1) = false := by
        have := any_star (env := X.env) (pos := pos) (es := es') fun x hx => hs x (List.mem_cons_of_mem _ hx)
        unfold backTo
        rw [List.any_map]
        exact this
      refine PE.w (pe_mw peW (paW hs) (attr_base hb) ?_ hp h1 h2) body
      have h3 : (backTo pos (starEach (e :: es') X.env)).all (fun x => !x.1) = true := by
        have := any_star (env := X.env) (pos := pos) (es := e :: es') hs
        unfold backTo
        rw [List.all_map]
        rw [List.any_eq_false] at this
        rw [List.all_eq_true]
        intro y hy
        have := this y hy
        simpa using this
      rw [h3]
      have h4 : (e :: es').length < 30 := by omega
      simp [keywordEach, backToKw] at h4 ⊢
      omega
  · cases e2
/-- stores in a block -/
theorem st_loc {own sc : Scope} {x : Str} (e : stB own sc x = true) : Loc sc x ∧ ((own.names.lookup x == some .cell) = true ∨ sc.names.lookup x = some .local) := by
  unfold stB at e
  split at e
  · exact ⟨.inl (by assumption), .inr (by assumption)⟩
  · split at e
    · rename_i h
      exact ⟨.inr (by assumption), .inl (by rw [h]; rfl)⟩
    · cases e
  · cases e
/-- readings of a block -/
def uE (X : Cx) (scope : Scope) (e : Expr) : TE := fun σ H Q => ∀ s0 H0 C cl fp, wE (fX X s0 H0 scope C cl fp) e σ H Q
def uT (X : Cx) (scope : Scope) (e : Expr) : TT := fun σ H Q => ∀ s0 H0 C cl fp, wT (fX X s0 H0 scope C cl fp) e σ H Q
def uIf (X : Cx) (scope : Scope) : List Expr → TT
  | [] => tYes
  | e :: _ => uT X scope e
theorem comp_step {X : Cx} {elt cond : CE} {i : Nat} {ee ei : Expr} {ifs : List Expr} {x : Str} {scope : Scope} {px pos : Pos} (W : Wd g F X) (hb : blkB g X.env.scope scope i x = true)
    (se : ∀ s0 H0 C cl fp, SE F (fX X s0 H0 scope C cl fp) elt ee) (hi : (∃ ec, ifs = [ec] ∧ ∀ s0 H0 C cl fp, ST F (fX X s0 H0 scope C cl fp) cond ec) ∨ (ifs = [] ∧ cond = .lit (.bl true))) {wi : TI} (pi : PI X (.Name x px) ei wi)
    (hset : isSet ei = false) : PE X (.ListComp ee [⟨.Name x px, ei, ifs, 0⟩] scope pos) (tLc wi (gName i) (uIf X scope ifs) (uE X scope ee) [i]) ∧ RdE F X elt (uE X scope ee) ∧ RdT F X cond (uIf X scope ifs) := by
  unfold blkB at hb
  simp only [Bool.and_eq_true, decide_eq_true_eq] at hb
  obtain ⟨⟨h1, h2⟩, h3⟩ := hb
  obtain ⟨l1, l2⟩ := st_loc h3
  refine ⟨?_, ?_, ?_⟩
  · refine pe_lc (own := [(x, i)]) W.calm W.nd pi (blkOk_by (by rw [W.nN]; exact h2)) (fun s0 H0 C cl fp => pg_name W.nd (by show X.N[i]? = some x; rw [W.nN]; exact h1) l1 l2) (fun s0 H0 C cl fp => ?_) (fun s0 H0 C cl fp => ⟨fun pins s σ H Q I h => h s0 H0 C cl fp pins s I⟩) (fold_of hset)
    rcases hi with ⟨ec, rfl, _⟩ | ⟨rfl, _⟩
    · exact pts_one ⟨fun pins s σ H Q I h => h s0 H0 C cl fp pins s I⟩
    · exact pts_nil
  · intro s σ r H h v h' Q re q ev post s0 H0 C cl fp
    exact se s0 H0 C cl fp s σ r H h v h' Q ⟨re.len, re.at'⟩ q ev post
  · intro s σ r H h b h' Q re q ev post
    rcases hi with ⟨ec, rfl, st⟩ | ⟨rfl, rfl⟩
    · intro s0 H0 C cl fp
      exact st s0 H0 C cl fp s σ r H h b h' Q ⟨re.len, re.at'⟩ q ev post
    · simp only [testC, Option.some.injEq, Prod.mk.injEq] at ev
      obtain ⟨rfl, rfl⟩ := ev
      exact post r H .refl q
end
end TH

set_option maxHeartbeats 8000000
/-! Expressions: by induction. -/
namespace TH
open PySem PySem.Spec PyProof.Rows L2
section
variable {g : Names} {F : Fns}
theorem pe_or' {X : Cx} {e : Expr} {t u : TE} (h : PE X e t) (k : PE X e u) : PE X e (fun σ H Q => t σ H Q ∨ u σ H Q) := ⟨fun pins s σ H Q I z => z.elim (h.run pins s σ H Q I) (k.run pins s σ H Q I)⟩
/-- a list as it is walked -/
theorem rj_cell {X : Cx} {r0 : Ren} {H0 : Hp} {n : Nat} {a : Addr} (z : r0[n]? = some a) : RJ X r0 H0 (.cell n) (Itl X.K a) := by
  intro i r H h st q
  show match (rdl h n).map (fun xs => xs[i]?) with
    | some (some x) => (Itl X.K a).go i H ∧ ∀ v H', (Itl X.K a).yld i H v H' → H' = H ∧ RV X.K r H x v
    | some none => (Itl X.K a).stop i H
    | none => True
  cases e : rdl h n with
  | none => trivial
  | some xs =>
    obtain ⟨vs, g, us, _⟩ := rdl_at q e (st.ix z)
    show match some xs[i]? with
      | some (some x) => (Itl X.K a).go i H ∧ ∀ v H', (Itl X.K a).yld i H v H' → H' = H ∧ RV X.K r H x v
      | some none => (Itl X.K a).stop i H
      | none => True
    cases e2 : xs[i]? with
    | none => exact ⟨vs, g, us.get_none e2⟩
    | some x =>
      obtain ⟨v, g2, rv⟩ := us.get e2
      refine ⟨⟨vs, v, g, g2⟩, fun w H' y => ⟨y.1, ?_⟩⟩
      have := y.2 vs g
      rw [g2] at this
      cases this
      exact rv
theorem rj_tup {X : Cx} {r0 : Ren} {H0 : Hp} {h0 : CH} {xs : List CV} {vs : List V} {a : Addr} (q0 : RH X.prog X.w X.K r0 h0 H0) (t : H0 a = some (.tup vs)) (us : RVs X.K r0 H0 xs vs) : RJ X r0 H0 (.tup xs) (Itt X.K a) := by
  intro i r H h st q
  have t2 := tup_step q0 st t
  have us2 := us.step q0 st
  show match some xs[i]? with
    | some (some x) => (Itt X.K a).go i H ∧ ∀ v H', (Itt X.K a).yld i H v H' → H' = H ∧ RV X.K r H x v
    | some none => (Itt X.K a).stop i H
    | none => True
  cases e2 : xs[i]? with
  | none => exact ⟨vs, SqT.of t2, us2.get_none e2⟩
  | some x =>
    obtain ⟨v, g2, rv⟩ := us2.get e2
    refine ⟨⟨vs, v, SqT.of t2, g2⟩, fun w H' y => ⟨y.1, ?_⟩⟩
    have := y.2 vs (SqT.of t2)
    rw [g2] at this
    cases this
    exact rv
theorem rj_str {X : Cx} {r0 : Ren} {H0 : Hp} {s : List Nat} : RJ X r0 H0 (.str s) (Its (toS s)) := by
  intro i r H h st q
  show match some (s[i]?.map fun c => CV.str [c]) with
    | some (some x) => (Its (toS s)).go i H ∧ ∀ v H', (Its (toS s)).yld i H v H' → H' = H ∧ RV X.K r H x v
    | some none => (Its (toS s)).stop i H
    | none => True
  cases e : s[i]? with
  | none =>
    show (toS s).cps.size ≤ i
    have := List.getElem?_eq_none_iff.mp e
    simpa [toS] using this
  | some c =>
    refine ⟨?_, fun v H' y => ⟨y.1, ?_⟩⟩
    · show i < (toS s).cps.size
      have := (List.getElem?_eq_some_iff.mp e).1
      simpa [toS] using this
    · obtain ⟨d, e1, rfl⟩ := y.2
      have : (toS s).cps[i]? = s[i]? := by simp [toS]
      rw [this, e] at e1
      cases e1
      exact .str [c]
theorem rj_ints {X : Cx} {r0 : Ren} {H0 : Hp} {lo : Int} {n : Nat} : RJ X r0 H0 (.ints lo n) (Itr lo n) := by
  intro i r H h st q
  show match some (if i < n then some (CV.int (lo + i)) else none) with
    | some (some x) => (Itr lo n).go i H ∧ ∀ v H', (Itr lo n).yld i H v H' → H' = H ∧ RV X.K r H x v
    | some none => (Itr lo n).stop i H
    | none => True
  by_cases z : i < n
  · rw [if_pos z]
    refine ⟨z, fun v H' y => ⟨y.1, ?_⟩⟩
    rw [y.2]; exact .int _
  · rw [if_neg z]
    exact Nat.le_of_not_lt z
theorem small_of {j : Int} (e : small62 j = true) : -(2 ^ 62) ≤ j ∧ j < 2 ^ 62 := by
  unfold small62 at e
  simpa using e
/-! ### a dict that is walked, locked -/
theorem lock_use {X : Cx} {r : Ren} {H : Hp} {h h1 : CH} {n : Nat} {a : Addr} (q : RH X.prog X.w X.K r h H) (z : r[n]? = some a) (e : lockC h n = some h1) :
    ∃ kvs u, h[n]? = some (.dct kvs) ∧ h1 = h.set n (.lkd kvs) ∧ H a = some u ∧ Mut (some u) ∧ (∀ o v, u ≠ .frz o v) ∧ RD X.K r H kvs u ∧ ∀ od, RH X.prog X.w X.K r h1 (upd H a (.frz od u)) := by
  unfold lockC at e
  split at e
  · rename_i kvs hm
    cases e
    obtain ⟨u, g, d⟩ := q.ob _ _ _ hm z
    have nf : ∀ (o : Obj) (v : HO), u ≠ .frz o v := fun o v y => by
      rcases d with ⟨es, rfl, _⟩ | ⟨es, rfl, _⟩ <;> cases y
    have nt : ∀ vs, u ≠ .tup vs := fun vs y => by
      rcases d with ⟨es, rfl, _⟩ | ⟨es, rfl, _⟩ <;> cases y
    refine ⟨kvs, u, hm, rfl, g, ?_, nf, d, fun od => ?_⟩
    · rcases d with ⟨es, rfl, _⟩ | ⟨es, rfl, _⟩ <;> trivial
    · refine q.write z (fun o v y => by rw [g] at y; cases y; exact nf o v rfl) ⟨od, u, upd_same, ?_⟩
      have ht : ∀ b v, Kp v → H b = some v → upd H a (.frz od u) b = some v := fun b v k y => by
        rw [upd_ne (fun w => by rw [w, g] at y; cases y; cases k with | tup vs => exact nt vs rfl | frz o vs => exact nf o _ rfl)]; exact y
      rcases d with ⟨es, e, d⟩ | ⟨es, e, d⟩
      · exact .inl ⟨es, e, Paired.mapP d fun _ _ z => ⟨z.1, z.2.keep ht fun _ _ e => e⟩⟩
      · exact .inr ⟨es, e, Paired.mapP d fun _ _ z => ⟨z.1, z.2.keep ht fun _ _ e => e⟩⟩
  · cases e
end
end TH

set_option maxHeartbeats 8000000
/-! A comprehension over a dict. -/
namespace TH
open PySem PySem.Spec PyProof.Rows L2
section
variable {g : Names} {F : Fns}
theorem toS_of (x : Str) : toS x.cps.toList = x := by cases x; simp [toS]
theorem rv_keyO {X : Cx} {r : Ren} {H : Hp} : ∀ k : Key, RV X.K r H (ofKey k) (kV k)
  | .inl i => .int i
  | .inr x => by
    have : RV X.K r H (.str x.cps.toList) (.str (toS x.cps.toList)) := .str _
    rw [toS_of] at this; exact this
theorem rv_keys {X : Cx} {r : Ren} {H : Hp} : ∀ ks : List Key, RVs X.K r H (ks.map ofKey) (ks.map kV)
  | [] => .nil
  | k :: ks => .cons (rv_keyO k) (rv_keys ks)
theorem lkd_at {X : Cx} {r : Ren} {H : Hp} {h : CH} {n : Nat} {a : Addr} {od : Obj} {u : HO} {kvs : List (CV × CV)} (q : RH X.prog X.w X.K r h H) (z : r[n]? = some a) (e : H a = some (.frz od u)) (hm : h[n]? = some (.lkd kvs)) : RD X.K r H kvs u := by
  obtain ⟨o, u', g, d⟩ := q.ob _ _ _ hm z
  rw [e] at g
  cases g
  exact d
theorem rd_len {X : Cx} {r : Ren} {H : Hp} {kvs : List (CV × CV)} {es : List (Key × V)} (d : RD X.K r H kvs (.dK es)) : RKV X.K r H kvs es := by
  rcases d with ⟨_, e, d⟩ | ⟨_, e, _⟩
  · cases e; exact d
  · cases e
theorem rd_lenT {X : Cx} {r : Ren} {H : Hp} {kvs : List (CV × CV)} {es : List (List Key × V)} (d : RD X.K r H kvs (.dT es)) : RTV X.K r H kvs es := by
  rcases d with ⟨_, e, _⟩ | ⟨_, e, d⟩
  · cases e
  · cases e; exact d
theorem paired_get2 {α β : Type} {G : α → β → Prop} : ∀ {l₁ : List α} {l₂ : List β}, Paired G l₁ l₂ → ∀ {i : Nat}, (l₁[i]? = none ∧ l₂.length ≤ i) ∨ ∃ a b, l₁[i]? = some a ∧ l₂[i]? = some b ∧ G a b
  | _, _, .nil, i => .inl ⟨rfl, Nat.zero_le _⟩
  | _, _, .cons r t, 0 => .inr ⟨_, _, rfl, rfl, r⟩
  | _, _, .cons r t, i + 1 => by
    rcases paired_get2 t (i := i) with ⟨a, b⟩ | ⟨a, b, c, d, e⟩
    · exact .inl ⟨by simpa using a, by simpa using b⟩
    · exact .inr ⟨a, b, by simpa using c, by simpa using d, e⟩
theorem rj_keysK {X : Cx} {r0 : Ren} {H0 : Hp} {n : Nat} {a : Addr} {od : Obj} {es : List (Key × V)} (z : r0[n]? = some a) (e : H0 a = some (.frz od (.dK es))) : RJ X r0 H0 (.keys n) (Itk a od es) := by
  intro i r H h st q
  have e2 := st.frz a od _ e
  show match (match h[n]? with | some (.lkd kvs) => some (kvs[i]?.map (·.1)) | _ => none) with
    | some (some x) => (Itk a od es).go i H ∧ ∀ v H', (Itk a od es).yld i H v H' → H' = H ∧ RV X.K r H x v
    | some none => (Itk a od es).stop i H
    | none => True
  split
  · rename_i x hx
    split at hx
    · rename_i kvs hm
      have d := rd_len (lkd_at q (st.ix z) e2 hm)
      rw [Option.some.injEq, Option.map_eq_some_iff] at hx
      obtain ⟨p, hp, rfl⟩ := hx
      rcases paired_get2 d (i := i) with ⟨y, _⟩ | ⟨p', b, g1, g2, g3⟩
      · rw [hp] at y; cases y
      rw [hp] at g1; cases g1
      refine ⟨⟨e2, (List.getElem?_eq_some_iff.mp g2).1⟩, fun v H' y => ⟨y.1, ?_⟩⟩
      obtain ⟨k, v', g4, rfl⟩ := y.2
      rw [g2] at g4; cases g4
      rw [g3.1]; exact rv_keyO k
    · cases hx
  · rename_i hx
    split at hx
    · rename_i kvs hm
      have d := rd_len (lkd_at q (st.ix z) e2 hm)
      rw [Option.some.injEq, Option.map_eq_none_iff] at hx
      rcases paired_get2 d (i := i) with ⟨_, y⟩ | ⟨p', b, g1, g2, g3⟩
      · exact ⟨e2, y⟩
      · rw [hx] at g1; cases g1
    · cases hx
  · trivial
theorem rj_keysT {X : Cx} {r0 : Ren} {H0 : Hp} {n : Nat} {a : Addr} {od : Obj} {es : List (List Key × V)} (z : r0[n]? = some a) (e : H0 a = some (.frz od (.dT es))) : RJ X r0 H0 (.keys n) (Itkt a od es) := by
  intro i r H h st q
  have e2 := st.frz a od _ e
  show match (match h[n]? with | some (.lkd kvs) => some (kvs[i]?.map (·.1)) | _ => none) with
    | some (some x) => (Itkt a od es).go i H ∧ ∀ v H', (Itkt a od es).yld i H v H' → H' = H ∧ RV X.K r H x v
    | some none => (Itkt a od es).stop i H
    | none => True
  split
  · rename_i x hx
    split at hx
    · rename_i kvs hm
      have d := rd_lenT (lkd_at q (st.ix z) e2 hm)
      rw [Option.some.injEq, Option.map_eq_some_iff] at hx
      obtain ⟨p, hp, rfl⟩ := hx
      rcases paired_get2 d (i := i) with ⟨y, _⟩ | ⟨p', b, g1, g2, g3⟩
      · rw [hp] at y; cases y
      rw [hp] at g1; cases g1
      refine ⟨⟨e2, (List.getElem?_eq_some_iff.mp g2).1⟩, fun v H' y => ⟨y.1, ?_⟩⟩
      obtain ⟨k, v', qq, g4, rfl, g5⟩ := y.2
      rw [g2] at g4; cases g4
      rw [g3.1]; exact .tup g5 (rv_keys k)
    · cases hx
  · rename_i hx
    split at hx
    · rename_i kvs hm
      have d := rd_lenT (lkd_at q (st.ix z) e2 hm)
      rw [Option.some.injEq, Option.map_eq_none_iff] at hx
      rcases paired_get2 d (i := i) with ⟨_, y⟩ | ⟨p', b, g1, g2, g3⟩
      · exact ⟨e2, y⟩
      · rw [hx] at g1; cases g1
    · cases hx
  · trivial
theorem rj_valsK {X : Cx} {r0 : Ren} {H0 : Hp} {n : Nat} {a : Addr} {od : Obj} {es : List (Key × V)} (z : r0[n]? = some a) (e : H0 a = some (.frz od (.dK es))) : RJ X r0 H0 (.vals n) (Itd a od es) := by
  intro i r H h st q
  have e2 := st.frz a od _ e
  show match (match h[n]? with | some (.lkd kvs) => some (kvs[i]?.map (·.2)) | _ => none) with
    | some (some x) => (Itd a od es).go i H ∧ ∀ v H', (Itd a od es).yld i H v H' → H' = H ∧ RV X.K r H x v
    | some none => (Itd a od es).stop i H
    | none => True
  split
  · rename_i x hx
    split at hx
    · rename_i kvs hm
      have d := rd_len (lkd_at q (st.ix z) e2 hm)
      rw [Option.some.injEq, Option.map_eq_some_iff] at hx
      obtain ⟨p, hp, rfl⟩ := hx
      rcases paired_get2 d (i := i) with ⟨y, _⟩ | ⟨p', b, g1, g2, g3⟩
      · rw [hp] at y; cases y
      rw [hp] at g1; cases g1
      refine ⟨⟨e2, (List.getElem?_eq_some_iff.mp g2).1⟩, fun v H' y => ⟨y.1, ?_⟩⟩
      obtain ⟨k, g4⟩ := y.2
      rw [g2] at g4; cases g4
      exact g3.2
    · cases hx
  · rename_i hx
    split at hx
    · rename_i kvs hm
      have d := rd_len (lkd_at q (st.ix z) e2 hm)
      rw [Option.some.injEq, Option.map_eq_none_iff] at hx
      rcases paired_get2 d (i := i) with ⟨_, y⟩ | ⟨p', b, g1, g2, g3⟩
      · exact ⟨e2, y⟩
      · rw [hx] at g1; cases g1
    · cases hx
  · trivial
/-- behind the lock -/
theorem unlock_use {X : Cx} {r r' : Ren} {H H' : Hp} {h2 h3 : CH} {n : Nat} {a : Addr} {od : Obj} {u : HO} (z : r[n]? = some a) (g : H a = some u) (nf : ∀ o v, u ≠ .frz o v) (nt : ∀ vs, u ≠ .tup vs) (nl : ∀ vs, u ≠ .lst vs) (st : Step r (upd H a (.frz od u)) r' H')
    (q2 : RH X.prog X.w X.K r' h2 H') (e : unlockC h2 n = some h3) : H' a = some (.frz od u) ∧ Step r H r' (upd H' a u) ∧ RH X.prog X.w X.K r' h3 (upd H' a u) := by
  have ea := st.frz a od u upd_same
  have ma : a ∈ r := List.mem_of_getElem? z
  refine ⟨ea, ⟨st.pre, fun b o e nb => ?_, fun b o v e => ?_, fun b h1 h2 => ?_⟩, ?_⟩
  · have ne : b ≠ a := fun y => nb (by rw [y]; exact ma)
    rw [upd_ne ne]; exact st.keep b o (by rw [upd_ne ne]; exact e) nb
  · have ne : b ≠ a := fun y => nf o v (by rw [y, g] at e; cases e; rfl)
    rw [upd_ne ne]; exact st.frz b o v (by rw [upd_ne ne]; exact e)
  · have ne : b ≠ a := fun y => h2 (by rw [y]; exact ma)
    have := st.new b h1 h2
    rwa [upd_ne ne] at this
  · unfold unlockC at e
    split at e
    · rename_i kvs hm
      cases e
      have d := lkd_at q2 (st.ix z) ea hm
      have ht : ∀ b v, Kp v → H' b = some v → upd H' a u b = some v := fun b v k y => by
        rw [upd_ne (fun w => by rw [w, ea] at y; cases y; cases k; exact nl _ rfl)]; exact y
      refine ⟨by simp [q2.len], q2.nd, fun m c b e1 e2 => ?_⟩
      by_cases hmn : m = n
      · subst hmn
        have hl : m < h2.length := (List.getElem?_eq_some_iff.mp hm).1
        rw [List.getElem?_set_self hl] at e1
        rw [st.ix z] at e2
        cases e1
        cases e2
        refine ⟨u, upd_same, ?_⟩
        rcases d with ⟨es, e, d⟩ | ⟨es, e, d⟩
        · exact .inl ⟨es, e, Paired.mapP d fun _ _ z => ⟨z.1, z.2.keep ht fun _ _ e => e⟩⟩
        · exact .inr ⟨es, e, Paired.mapP d fun _ _ z => ⟨z.1, z.2.keep ht fun _ _ e => e⟩⟩
      · rw [List.getElem?_set_ne (Ne.symm hmn)] at e1
        exact (q2.ob m c b e1 e2).keep ht (fun _ _ e => e) (upd_ne fun y => hmn (nd_ix q2.nd e2 (by rw [y]; exact st.ix z)))
    · cases e
theorem compD_core {X : Cx} {elt cond : CE} {i d : Nat} {ee ei : Expr} {ifs : List Expr} {x : Str} {scope : Scope} {px pos : Pos} {vl : Bool} (W : Wd g F X) (hb : blkB g X.env.scope scope i x = true)
    (se : ∀ s0 H0 C cl fp, SE F (fX X s0 H0 scope C cl fp) elt ee) (hi : (∃ ec, ifs = [ec] ∧ ∀ s0 H0 C cl fp, ST F (fX X s0 H0 scope C cl fp) cond ec) ∨ (ifs = [] ∧ cond = .lit (.bl true)))
    (hv : (vl = false ∧ ∃ y py, ei = .Name y py ∧ nmOk g X.env.scope d y = true) ∨ (vl = true ∧ ∃ y py ap p, ei = .Call (.Attribute (.Name y py) "values" ap) [] [] p ∧ nmOk g X.env.scope d y = true ∧ (ap.endLine == p.line) = true))
    {s : Env} {σ : L2.St} {r : Ren} {H : Hp} {h : CH} {v : CV} {h' : CH} {Q : VK} (re : RE X r H s σ) (q : RH X.prog X.w X.K r h H) (ev : evalC F (.compD elt i vl d cond) s h = some (v, h')) (post : PostE X r H v h' Q)
    {G : List (Addr × Obj) → Shared → Prop}
    (fn : ∀ wi, PI X (.Name x px) ei wi → isSet ei = false → (∃ a u, H a = some u ∧ Mut (some u) ∧ ∀ od, tLc wi (gName i) (uIf X scope ifs) (uE X scope ee) [i] σ (upd H a (.frz od u)) (fun v H' => H' a = some (.frz od u) ∧ Q v (upd H' a u))) → ∀ pins s1, Inv X pins σ H s1 → G pins s1) :
    ∀ pins s1, Inv X pins σ H s1 → G pins s1 := by
  simp only [evalC] at ev
  split at ev
  · rename_i n hd
    split at ev
    · cases ev
    rename_i hleaf
    rw [Option.bind_eq_some_iff] at ev
    obtain ⟨h1, e1, ev⟩ := ev
    rw [Option.bind_eq_some_iff] at ev
    obtain ⟨⟨acc2, h2⟩, e2, ev⟩ := ev
    rw [Option.bind_eq_some_iff] at ev
    obtain ⟨h3, e3, ev⟩ := ev
    obtain ⟨w, hw, rw_⟩ := re.at' d _ hd
    cases rw_ with | @ref _ a z =>
    obtain ⟨kvs, u, hm, rfl, ga, mu, nf, dd, ql⟩ := lock_use q z e1
    have nt : ∀ vs, u ≠ .tup vs := fun vs y => by
      rcases dd with ⟨es, rfl, _⟩ | ⟨es, rfl, _⟩ <;> cases y
    have nl : ∀ vs, u ≠ .lst vs := fun vs y => by
      rcases dd with ⟨es, rfl, _⟩ | ⟨es, rfl, _⟩ <;> cases y
    have stl : ∀ od, ∀ b v, Kp v → H b = some v → upd H a (.frz od u) b = some v := fun od b v k y => by
      rw [upd_ne (fun w => by rw [w, ga] at y; cases y; cases k with | tup vs => exact nt vs rfl | frz o vs => exact nf o _ rfl)]; exact y
    have rel : ∀ od, RE X r (upd H a (.frz od u)) s σ := fun od => ⟨re.len, fun j x e => let ⟨v, a, b⟩ := re.at' j x e; ⟨v, a, b.keep (stl od) fun _ _ e => e⟩⟩
    have len : (Src.keys n).len (h.set n (.lkd kvs)) = kvs.length := by
      show (match (h.set n (.lkd kvs))[n]? with | some (.lkd kvs) => kvs.length | _ => 0) = _
      rw [List.getElem?_set_self (List.getElem?_eq_some_iff.mp hm).1]
    rw [len] at e2
    have fin : ∀ (J : Obj → It) (wi : TI), PI X (.Name x px) ei wi → isSet ei = false → (∀ od R, R (J od) (upd H a (.frz od u)) → wi σ (upd H a (.frz od u)) R) → (∀ od, RJ X r (upd H a (.frz od u)) (if vl = true then .vals n else .keys n) (J od)) → kvs.length ≤ lim →
        ∀ pins s1, Inv X pins σ H s1 → G pins s1 := by
      intro J wi pi hset hwi rj hl
      obtain ⟨pe, hel, hct⟩ := comp_step (pos := pos) W hb se hi pi hset
      refine fn wi pi hset ⟨a, u, ga, mu, fun od => ?_⟩
      refine hwi od _ ?_
      intro D hD
      refine comp_loop (Q := fun v H' => H' a = some (.frz od u) ∧ Q v (upd H' a u)) (rj od) (ql od) (rel od) hel hct hl e2 D hD fun r' H' av st q' nD eD ra => ?_
      have hDa : D ≠ a := fun y => by rw [y, upd_same] at hD; cases hD
      obtain ⟨g1, g2, g3⟩ := unlock_use z ga nf nt nl st q' e3
      refine ⟨g1, ?_⟩
      have hD0 : H D = none := by rw [upd_ne hDa] at hD; exact hD
      have ra' : RVs X.K r' (upd H' a u) acc2 av := ra.keep (fun b v k y => by rw [upd_ne (fun w => by rw [w, g1] at y; cases y; cases k; exact nl _ rfl)]; exact y) fun _ _ e => e
      exact comp_post q .refl hD0 ev post r' (upd H' a u) av g2 g3 nD (by rw [upd_ne hDa]; exact eD) ra'
    have hlen : ∀ (k : kvs.length ≤ lim → ∀ pins s1, Inv X pins σ H s1 → G pins s1), ∀ pins s1, Inv X pins σ H s1 → G pins s1 := by
      intro k pins s1 I
      refine k ?_ pins s1 I
      rcases dd with ⟨es, rfl, dd⟩ | ⟨es, rfl, dd⟩
      · rw [Paired.length dd, lim_eq]
        exact (dk_of I.hok ga).1
      · rw [Paired.length dd, lim_eq]
        exact (dt_of I.hok ga).1
    refine hlen fun hl => ?_
    rcases hv with ⟨rfl, y, py, rfl, hy⟩ | ⟨rfl, y, py, ap, p, rfl, hy, hln⟩
    · obtain ⟨n1, n2, n3, n4⟩ := nmOk_of W hy
      rcases dd with ⟨es, rfl, dd⟩ | ⟨es, rfl, dd⟩
      · exact fin (fun od => Itk a od es) _ (pi_keys (pe_var n1 n2 n3 n4)) rfl (fun od R hR => ⟨.ref a, hw, a, od, rfl, .inl ⟨es, upd_same, hR⟩⟩) (fun od => rj_keysK z upd_same) hl
      · exact fin (fun od => Itkt a od es) _ (pi_keys (pe_var n1 n2 n3 n4)) rfl (fun od R hR => ⟨.ref a, hw, a, od, rfl, .inr ⟨es, upd_same, hR⟩⟩) (fun od => rj_keysT z upd_same) hl
    · obtain ⟨n1, n2, n3, n4⟩ := nmOk_of W hy
      rcases dd with ⟨es, rfl, dd⟩ | ⟨es, rfl, dd⟩
      · exact fin (fun od => Itd a od es) _ (pi_values (pe_var n1 n2 n3 n4) rfl hln) rfl (fun od R hR => ⟨.ref a, hw, a, od, es, rfl, upd_same, hR⟩) (fun od => rj_valsK z upd_same) hl
      · exfalso
        simp only [Bool.true_and, Bool.not_eq_true', Bool.not_eq_false] at hleaf
        unfold hLeaf at hleaf
        rw [hm] at hleaf
        cases dd with
        | nil => cases hleaf
        | cons a t =>
          simp only [a.1] at hleaf
          cases hleaf
  · cases ev
theorem compD_step {X : Cx} {elt cond : CE} {i d : Nat} {ee ei : Expr} {ifs : List Expr} {x : Str} {scope : Scope} {px pos : Pos} {vl : Bool} (W : Wd g F X) (hb : blkB g X.env.scope scope i x = true)
    (se : ∀ s0 H0 C cl fp, SE F (fX X s0 H0 scope C cl fp) elt ee) (hi : (∃ ec, ifs = [ec] ∧ ∀ s0 H0 C cl fp, ST F (fX X s0 H0 scope C cl fp) cond ec) ∨ (ifs = [] ∧ cond = .lit (.bl true)))
    (hv : (vl = false ∧ ∃ y py, ei = .Name y py ∧ nmOk g X.env.scope d y = true) ∨ (vl = true ∧ ∃ y py ap p, ei = .Call (.Attribute (.Name y py) "values" ap) [] [] p ∧ nmOk g X.env.scope d y = true ∧ (ap.endLine == p.line) = true)) :
    SE F X (.compD elt i vl d cond) (.ListComp ee [⟨.Name x px, ei, ifs, 0⟩] scope pos) := by
  intro s σ r H h v h' Q re q ev post
  exact compD_core (px := px) (pos := pos) W hb se hi hv re q ev post fun wi pi hset hw => PE.w (pe_lock (comp_step (pos := pos) W hb se hi pi hset).1) hw
end
end TH

set_option maxHeartbeats 8000000
/-! Expressions: the induction. -/
namespace TH
open PySem PySem.Spec PyProof.Rows L2
section
variable {g : Names} {F : Fns}
/-! ### steps -/
theorem var_step {X : Cx} {i : Nat} {x : Str} {p : Pos} (W : Wd g F X) (h : nmOk g X.env.scope i x = true) : SE F X (.var i) (.Name x p) := by
  intro s σ r H hh v h' Q re q ev post
  obtain ⟨n1, n2, n3, n4⟩ := nmOk_of W h
  simp only [evalC] at ev
  split at ev
  · rename_i w hw
    simp only [Option.some.injEq, Prod.mk.injEq] at ev
    obtain ⟨rfl, rfl⟩ := ev
    obtain ⟨u, hu, rv⟩ := re.at' i w hw
    exact PE.w (pe_var n1 n2 n3 n4) ⟨u, hu, post.same q rv⟩
  · cases ev
theorem lit_step {X : Cx} {v : CV} {c : Const} {k : Nat} {p : Pos} (h : litB v c = true) : SE F X (.lit v) (.Constant c k p) := by
  intro s σ r H hh w h' Q re q ev post
  simp only [evalC, Option.some.injEq, Prod.mk.injEq] at ev
  obtain ⟨rfl, rfl⟩ := ev
  obtain ⟨u, pe, rv⟩ := litB_pe (X := X) (k := k) (p := p) h
  exact PE.w pe (post.same q (rv r H))
theorem glob_step {X : Cx} {nm : String} {v : CV} {p : Pos} (W : Wd g F X) (hg : glB X.env.scope (Str.ofString nm) = true) (hm : (nm, v) ∈ g.gv) (hd : (Str.ofString nm == ("__debug__" : Str)) = false) : SE F X (.glob nm v) (.Name (Str.ofString nm) p) := by
  intro s σ r H hh w h' Q re q ev post
  simp only [evalC, Option.some.injEq, Prod.mk.injEq] at ev
  obtain ⟨rfl, rfl⟩ := ev
  obtain ⟨u, x, e1, e2, e3⟩ := W.gl _ hm
  exact PE.w (pe_glob (gl_of hg) e1 e2 hd) (post.same q (e3 r H))
theorem bin_step {X : Cx} {o : BOp} {a b : CE} {ea eb : Expr} {p : Pos} (sa : SE F X a ea) (sb : SE F X b eb) : SE F X (.bin o a b) (.BinOp ea (opOf o) eb p) := by
  intro s σ r H h v h' Q re q ev post
  simp only [evalC, Option.bind_eq_some_iff] at ev
  obtain ⟨⟨x, h1⟩, e1, ⟨y, h2⟩, e2, e3⟩ := ev
  refine PE.w (pe_op opW peW peW) ?_
  refine sa s σ r H h x h1 _ re q e1 fun v1 r1 H1 st1 q1 rv1 => ?_
  refine sb s σ r1 H1 h1 y h2 _ (re.step q st1) q1 e2 fun v2 r2 H2 st2 q2 rv2 => ?_
  exact bin_ok q2 (rv1.step q1 st2) rv2 e3 fun v3 r3 H3 st3 q3 rv3 => post v3 r3 H3 (st1.trans (st2.trans st3)) q3 rv3
theorem cmp_step {X : Cx} {o : COp} {a b : CE} {ea eb : Expr} {p : Pos} (W : Wd g F X) (sa : SE F X a ea) (sb : SE F X b eb) (hs : isSet eb = false) : SE F X (.cmp o a b) (.Compare ea [cmpOf o] [eb] p) := by
  intro s σ r H h v h' Q re q ev post
  simp only [evalC, Option.bind_eq_some_iff, Option.map_eq_some_iff] at ev
  obtain ⟨⟨x, h1⟩, e1, ⟨y, h2⟩, e2, k, e3, e4⟩ := ev
  cases e4
  refine PE.w (cmp_PE hs) ?_
  refine sa s σ r H h x h1 _ re q e1 fun v1 r1 H1 st1 q1 rv1 => ?_
  refine sb s σ r1 H1 h1 y h2 _ (re.step q st1) q1 e2 fun v2 r2 H2 st2 q2 rv2 => ?_
  exact cmp_ok (by have := W.un; omega) q2 (rv1.step q1 st2) rv2 e3 fun v3 r3 H3 st3 q3 rv3 => post v3 r3 H3 (st1.trans (st2.trans st3)) q3 rv3
theorem cmpT_step {X : Cx} {o : COp} {a b : CE} {ea eb : Expr} {p : Pos} (W : Wd g F X) (sa : SE F X a ea) (sb : SE F X b eb) (hs : isSet eb = false) : ST F X (.cmp o a b) (.Compare ea [cmpOf o] [eb] p) := by
  intro s σ r H h k h' Q re q ev post
  simp only [testC, Option.bind_eq_some_iff, Option.map_eq_some_iff] at ev
  obtain ⟨⟨x, h1⟩, e1, ⟨y, h2⟩, e2, k, e3, e4⟩ := ev
  cases e4
  refine PT.w (pt_cmpR opW peW peW (marks hs)) ?_
  refine sa s σ r H h x h1 _ re q e1 fun v1 r1 H1 st1 q1 rv1 => ?_
  refine sb s σ r1 H1 h1 y h2 _ (re.step q st1) q1 e2 fun v2 r2 H2 st2 q2 rv2 => ?_
  exact cmp_ok (by have := W.un; omega) q2 (rv1.step q1 st2) rv2 e3 fun v3 r3 H3 st3 q3 rv3 => ⟨_, rv_bl rv3, post r3 H3 (st1.trans (st2.trans st3)) q3⟩
theorem cmp2_step {X : Cx} {o o2 : COp} {a b c : CE} {ea eb ec : Expr} {p : Pos} (W : Wd g F X) (sa : SE F X a ea) (sb : SE F X b eb) (sc : SE F X c ec) (hs : isSet ec = false) : SE F X (.cmp2 o o2 a b c) (.Compare ea [cmpOf o, cmpOf o2] [eb, ec] p) := by
  intro s σ r H h v h' Q re q ev post
  simp only [evalC, Option.bind_eq_some_iff] at ev
  obtain ⟨⟨x, h1⟩, e1, ⟨y, h2⟩, e2, k, e3, e4⟩ := ev
  have hu : X.A.units + 64 < cLine := by have := W.un; omega
  refine PE.w (pe_chain opW opW peW peW peW (lastM2 hs)) ?_
  refine sa s σ r H h x h1 _ re q e1 fun v1 r1 H1 st1 q1 rv1 => ?_
  refine sb s σ r1 H1 h1 y h2 _ (re.step q st1) q1 e2 fun v2 r2 H2 st2 q2 rv2 => ?_
  refine cmp_ok hu q2 (rv1.step q1 st2) rv2 e3 fun v3 r3 H3 st3 q3 rv3 => ⟨_, rv_bl rv3, ?_⟩
  have st13 := st1.trans (st2.trans st3)
  split at e4
  · rw [if_pos (by assumption)]
    simp only [Option.bind_eq_some_iff, Option.map_eq_some_iff] at e4
    obtain ⟨⟨z, h3⟩, f1, k2, f2, f3⟩ := e4
    cases f3
    refine sc s σ r3 H3 h2 z h3 _ (re.step q st13) q3 f1 fun v4 r4 H4 st4 q4 rv4 => ?_
    exact cmp_ok hu q4 ((rv2.step q2 st3).step q3 st4) rv4 f2 fun v5 r5 H5 st5 q5 rv5 => post v5 r5 H5 (st13.trans (st4.trans st5)) q5 rv5
  · rw [if_neg (by assumption)]
    cases e4
    exact post _ r3 H3 st13 q3 (.bl false)
theorem cmp2T_step {X : Cx} {o o2 : COp} {a b c : CE} {ea eb ec : Expr} {p : Pos} (W : Wd g F X) (sa : SE F X a ea) (sb : SE F X b eb) (sc : SE F X c ec) (hs : isSet ec = false) : ST F X (.cmp2 o o2 a b c) (.Compare ea [cmpOf o, cmpOf o2] [eb, ec] p) := by
  intro s σ r H h v h' Q re q ev post
  have ev2 := test_eval ev
  refine PT.w (pt_chain opW opW peW peW peW (lastM2 hs)) ?_
  simp only [testC, Option.bind_eq_some_iff] at ev
  obtain ⟨⟨x, h1⟩, e1, ⟨y, h2⟩, e2, k, e3, e4⟩ := ev
  have hu : X.A.units + 64 < cLine := by have := W.un; omega
  refine sa s σ r H h x h1 _ re q e1 fun v1 r1 H1 st1 q1 rv1 => ?_
  refine sb s σ r1 H1 h1 y h2 _ (re.step q st1) q1 e2 fun v2 r2 H2 st2 q2 rv2 => ?_
  refine cmp_ok hu q2 (rv1.step q1 st2) rv2 e3 fun v3 r3 H3 st3 q3 rv3 => ⟨_, rv_bl rv3, ?_⟩
  have st13 := st1.trans (st2.trans st3)
  split at e4
  · rw [if_pos (by assumption)]
    simp only [Option.bind_eq_some_iff, Option.map_eq_some_iff] at e4
    obtain ⟨⟨z, h3⟩, f1, k2, f2, f3⟩ := e4
    cases f3
    refine sc s σ r3 H3 h2 z h3 _ (re.step q st13) q3 f1 fun v4 r4 H4 st4 q4 rv4 => ?_
    exact cmp_ok hu q4 ((rv2.step q2 st3).step q3 st4) rv4 f2 fun v5 r5 H5 st5 q5 rv5 => ⟨_, rv_bl rv5, post r5 H5 (st13.trans (st4.trans st5)) q5⟩
  · rw [if_neg (by assumption)]
    cases e4
    exact ⟨_, rfl, post r3 H3 st13 q3⟩
theorem cmp3_step {X : Cx} {o o2 o3 : COp} {a b c d : CE} {ea eb ec ed : Expr} {p : Pos} (W : Wd g F X) (sa : SE F X a ea) (sb : SE F X b eb) (sc : SE F X c ec) (sd : SE F X d ed) (hs : isSet ed = false) : SE F X (.cmp3 o o2 o3 a b c d) (.Compare ea [cmpOf o, cmpOf o2, cmpOf o3] [eb, ec, ed] p) := by
  intro s σ r H h v h' Q re q ev post
  simp only [evalC, Option.bind_eq_some_iff] at ev
  obtain ⟨⟨x, h1⟩, e1, ⟨y, h2⟩, e2, k, e3, e4⟩ := ev
  have hu : X.A.units + 64 < cLine := by have := W.un; omega
  refine PE.w (pe_chain3 opW opW opW peW peW peW peW (lastM3 hs)) ?_
  refine sa s σ r H h x h1 _ re q e1 fun v1 r1 H1 st1 q1 rv1 => ?_
  refine sb s σ r1 H1 h1 y h2 _ (re.step q st1) q1 e2 fun v2 r2 H2 st2 q2 rv2 => ?_
  refine cmp_ok hu q2 (rv1.step q1 st2) rv2 e3 fun v3 r3 H3 st3 q3 rv3 => ⟨_, rv_bl rv3, ?_⟩
  have st13 := st1.trans (st2.trans st3)
  split at e4
  · rw [if_pos (by assumption)]
    simp only [Option.bind_eq_some_iff] at e4
    obtain ⟨⟨z, h3⟩, f1, k2, f2, f3⟩ := e4
    refine sc s σ r3 H3 h2 z h3 _ (re.step q st13) q3 f1 fun v4 r4 H4 st4 q4 rv4 => ?_
    refine cmp_ok hu q4 ((rv2.step q2 st3).step q3 st4) rv4 f2 fun v5 r5 H5 st5 q5 rv5 => ⟨_, rv_bl rv5, ?_⟩
    have st15 := st13.trans (st4.trans st5)
    split at f3
    · rw [if_pos (by assumption)]
      simp only [Option.bind_eq_some_iff, Option.map_eq_some_iff] at f3
      obtain ⟨⟨z2, h4⟩, g1, k3, g2, g3⟩ := f3
      cases g3
      refine sd s σ r5 H5 h3 z2 h4 _ (re.step q st15) q5 g1 fun v6 r6 H6 st6 q6 rv6 => ?_
      exact cmp_ok hu q6 ((rv4.step q4 st5).step q5 st6) rv6 g2 fun v7 r7 H7 st7 q7 rv7 => post v7 r7 H7 (st15.trans (st6.trans st7)) q7 rv7
    · rw [if_neg (by assumption)]
      cases f3
      exact post _ r5 H5 st15 q5 (.bl false)
  · rw [if_neg (by assumption)]
    cases e4
    exact post _ r3 H3 st13 q3 (.bl false)
theorem cmp3T_step {X : Cx} {o o2 o3 : COp} {a b c d : CE} {ea eb ec ed : Expr} {p : Pos} (W : Wd g F X) (sa : SE F X a ea) (sb : SE F X b eb) (sc : SE F X c ec) (sd : SE F X d ed) (hs : isSet ed = false) : ST F X (.cmp3 o o2 o3 a b c d) (.Compare ea [cmpOf o, cmpOf o2, cmpOf o3] [eb, ec, ed] p) := by
  intro s σ r H h v h' Q re q ev post
  simp only [testC, Option.bind_eq_some_iff] at ev
  obtain ⟨⟨x, h1⟩, e1, ⟨y, h2⟩, e2, k, e3, e4⟩ := ev
  have hu : X.A.units + 64 < cLine := by have := W.un; omega
  refine PT.w (pt_chain3 opW opW opW peW peW peW peW (lastM3 hs)) ?_
  refine sa s σ r H h x h1 _ re q e1 fun v1 r1 H1 st1 q1 rv1 => ?_
  refine sb s σ r1 H1 h1 y h2 _ (re.step q st1) q1 e2 fun v2 r2 H2 st2 q2 rv2 => ?_
  refine cmp_ok hu q2 (rv1.step q1 st2) rv2 e3 fun v3 r3 H3 st3 q3 rv3 => ⟨_, rv_bl rv3, ?_⟩
  have st13 := st1.trans (st2.trans st3)
  split at e4
  · rw [if_pos (by assumption)]
    simp only [Option.bind_eq_some_iff] at e4
    obtain ⟨⟨z, h3⟩, f1, k2, f2, f3⟩ := e4
    refine sc s σ r3 H3 h2 z h3 _ (re.step q st13) q3 f1 fun v4 r4 H4 st4 q4 rv4 => ?_
    refine cmp_ok hu q4 ((rv2.step q2 st3).step q3 st4) rv4 f2 fun v5 r5 H5 st5 q5 rv5 => ⟨_, rv_bl rv5, ?_⟩
    have st15 := st13.trans (st4.trans st5)
    split at f3
    · rw [if_pos (by assumption)]
      simp only [Option.bind_eq_some_iff, Option.map_eq_some_iff] at f3
      obtain ⟨⟨z2, h4⟩, g1, k3, g2, g3⟩ := f3
      cases g3
      refine sd s σ r5 H5 h3 z2 h4 _ (re.step q st15) q5 g1 fun v6 r6 H6 st6 q6 rv6 => ?_
      exact cmp_ok hu q6 ((rv4.step q4 st5).step q5 st6) rv6 g2 fun v7 r7 H7 st7 q7 rv7 => ⟨_, rv_bl rv7, post r7 H7 (st15.trans (st6.trans st7)) q7⟩
    · rw [if_neg (by assumption)]
      cases f3
      exact post r5 H5 st15 q5
  · rw [if_neg (by assumption)]
    cases e4
    exact post r3 H3 st13 q3
/-! ### and, or, not, if -/
theorem and_step {X : Cx} {a b : CE} {ea eb : Expr} {er : List Expr} {p : Pos} (sa : SE F X a ea) (sb : SE F X b (.BoolOp .And (eb :: er) p)) : SE F X (.and a b) (.BoolOp .And (ea :: eb :: er) p) := by
  intro s σ r H h v h' Q re q ev post
  simp only [evalC, Option.bind_eq_some_iff] at ev
  obtain ⟨⟨k, h1⟩, e1, e2⟩ := ev
  refine PE.w (pe_and peW peW) ?_
  refine sa s σ r H h _ h1 _ re q (test_eval e1) fun v1 r1 H1 st1 q1 rv1 => ⟨_, rv_bl rv1, ?_⟩
  split at e2
  · rw [if_pos (by assumption)]
    simp only [Option.map_eq_some_iff] at e2
    obtain ⟨⟨k2, h2⟩, f1, f2⟩ := e2
    cases f2
    exact sb s σ r1 H1 h1 _ h2 _ (re.step q st1) q1 (test_eval f1) fun v2 r2 H2 st2 q2 rv2 => post v2 r2 H2 (st1.trans st2) q2 rv2
  · rw [if_neg (by assumption)]
    cases e2
    exact post _ r1 H1 st1 q1 (.bl false)
theorem or_step {X : Cx} {a b : CE} {ea eb : Expr} {er : List Expr} {p : Pos} (sa : SE F X a ea) (sb : SE F X b (.BoolOp .Or (eb :: er) p)) : SE F X (.or a b) (.BoolOp .Or (ea :: eb :: er) p) := by
  intro s σ r H h v h' Q re q ev post
  simp only [evalC, Option.bind_eq_some_iff] at ev
  obtain ⟨⟨k, h1⟩, e1, e2⟩ := ev
  refine PE.w (pe_or peW peW) ?_
  refine sa s σ r H h _ h1 _ re q (test_eval e1) fun v1 r1 H1 st1 q1 rv1 => ⟨_, rv_bl rv1, ?_⟩
  split at e2
  · rw [if_pos (by assumption)]
    cases e2
    exact post _ r1 H1 st1 q1 (.bl true)
  · rw [if_neg (by assumption)]
    simp only [Option.map_eq_some_iff] at e2
    obtain ⟨⟨k2, h2⟩, f1, f2⟩ := e2
    cases f2
    exact sb s σ r1 H1 h1 _ h2 _ (re.step q st1) q1 (test_eval f1) fun v2 r2 H2 st2 q2 rv2 => post v2 r2 H2 (st1.trans st2) q2 rv2
theorem one_step {X : Cx} {c : CE} {op : PySem.BoolOp} {e : Expr} {p : Pos} (s : SE F X c e) : SE F X c (.BoolOp op [e] p) := fun s1 σ r H h v h' Q re q ev post => PE.w (pe_one peW) (s s1 σ r H h v h' Q re q ev post)
theorem not_step {X : Cx} {a : CE} {ea : Expr} {p : Pos} (sa : SE F X a ea) : SE F X (.not a) (.UnaryOp .Not ea p) := by
  intro s σ r H h v h' Q re q ev post
  simp only [evalC, Option.map_eq_some_iff] at ev
  obtain ⟨⟨k, h1⟩, e1, e2⟩ := ev
  cases e2
  refine PE.w (pe_not peW) ?_
  exact sa s σ r H h _ h1 _ re q (test_eval e1) fun v1 r1 H1 st1 q1 rv1 => ⟨_, rv_bl rv1, post _ r1 H1 st1 q1 (.bl _)⟩
theorem neg_step {X : Cx} {a : CE} {ea : Expr} {p : Pos} (sa : SE F X a ea) : SE F X (.neg a) (.UnaryOp .USub ea p) := by
  intro s σ r H h v h' Q re q ev post
  simp only [evalC, Option.bind_eq_some_iff] at ev
  obtain ⟨⟨x, h1⟩, e1, e2⟩ := ev
  split at e2
  · rename_i i hi
    cases e2
    simp only at hi
    subst hi
    refine PE.w (pe_un un_neg peW) ?_
    refine sa s σ r H h _ h1 _ re q e1 fun v1 r1 H1 st1 q1 rv1 => ?_
    cases rv1
    exact ⟨i, rfl, post _ r1 H1 st1 q1 (.int _)⟩
  · cases e2
theorem ite_step {X : Cx} {c a b : CE} {ec ea eb : Expr} {p : Pos} (tc : ST F X c ec) (sa : SE F X a ea) (sb : SE F X b eb) : SE F X (.ite c a b) (.IfExp ec ea eb p) := by
  intro s σ r H h v h' Q re q ev post
  simp only [evalC, Option.bind_eq_some_iff] at ev
  obtain ⟨⟨k, h1⟩, e1, e2⟩ := ev
  refine PE.w (pe_ifExp ptW peW peW) ?_
  refine tc s σ r H h k h1 _ re q e1 fun r1 H1 st1 q1 => ?_
  split at e2
  · rw [if_pos (by assumption)]
    exact sa s σ r1 H1 h1 _ _ _ (re.step q st1) q1 e2 fun v2 r2 H2 st2 q2 rv2 => post v2 r2 H2 (st1.trans st2) q2 rv2
  · rw [if_neg (by assumption)]
    exact sb s σ r1 H1 h1 _ _ _ (re.step q st1) q1 e2 fun v2 r2 H2 st2 q2 rv2 => post v2 r2 H2 (st1.trans st2) q2 rv2
/-! tests -/
theorem andT_step {X : Cx} {a b : CE} {ea eb : Expr} {er : List Expr} {p : Pos} {t : TT} (ta : ST F X a ea) (pw : PW X (.BoolOp .And (eb :: er) p) t) (tb : RdT F X b t) : ∃ t2, PW X (.BoolOp .And (ea :: eb :: er) p) t2 ∧ RdT F X (.and a b) t2 := by
  refine ⟨_, pw_and ptW pw, ?_⟩
  intro s σ r H h k h' Q re q ev post
  simp only [testC, Option.bind_eq_some_iff] at ev
  obtain ⟨⟨k, h1⟩, e1, e2⟩ := ev
  refine ta s σ r H h k h1 _ re q e1 fun r1 H1 st1 q1 => ?_
  split at e2
  · rw [if_pos (by assumption)]
    exact tb s σ r1 H1 h1 _ _ _ (re.step q st1) q1 e2 fun r2 H2 st2 q2 => post r2 H2 (st1.trans st2) q2
  · rw [if_neg (by assumption)]
    cases e2
    exact post r1 H1 st1 q1
theorem orT_step {X : Cx} {a b : CE} {ea eb : Expr} {er : List Expr} {p : Pos} {t : TT} (ta : ST F X a ea) (pw : PW X (.BoolOp .Or (eb :: er) p) t) (tb : RdT F X b t) : ∃ t2, PW X (.BoolOp .Or (ea :: eb :: er) p) t2 ∧ RdT F X (.or a b) t2 := by
  refine ⟨_, pw_or ptW pw, ?_⟩
  intro s σ r H h k h' Q re q ev post
  simp only [testC, Option.bind_eq_some_iff] at ev
  obtain ⟨⟨k, h1⟩, e1, e2⟩ := ev
  refine ta s σ r H h k h1 _ re q e1 fun r1 H1 st1 q1 => ?_
  split at e2
  · rw [if_pos (by assumption)]
    cases e2
    exact post r1 H1 st1 q1
  · rw [if_neg (by assumption)]
    exact tb s σ r1 H1 h1 _ _ _ (re.step q st1) q1 e2 fun r2 H2 st2 q2 => post r2 H2 (st1.trans st2) q2
theorem notT_step {X : Cx} {a : CE} {ea : Expr} {p : Pos} (ta : ST F X a ea) : ST F X (.not a) (.UnaryOp .Not ea p) := by
  intro s σ r H h k h' Q re q ev post
  simp only [testC, Option.map_eq_some_iff] at ev
  obtain ⟨⟨k, h1⟩, e1, e2⟩ := ev
  cases e2
  exact PT.w (pt_not ptW) (ta s σ r H h k h1 _ re q e1 fun r1 H1 st1 q1 => post r1 H1 st1 q1)
/-! displays, indices, slices -/
theorem tup_step2 {X : Cx} {es : CEs} {l : List Expr} {p : Pos} (sa : SA F X es l) (hk : chkEs g X.env.scope es l = true) (hl : l.length ≤ 1000) {kk : Nat} : SE F X (.tup es) (.Tuple l kk p) := by
  intro s σ r H h v h' Q re q ev post
  simp only [evalC, Option.map_eq_some_iff] at ev
  obtain ⟨⟨vs, h1⟩, e1, e2⟩ := ev
  cases e2
  refine PE.w (pe_tup (paW (chkEs_star hk))) ?_
  refine sa s σ r H h vs h1 _ re q e1 fun us r1 H1 st1 q1 rv => ?_
  refine ⟨?_, ?_⟩
  · rw [← rv.length, evalCs_len e1 hk, sizeLine_eq]; omega
  · exact PostE.tup (fun v2 r2 H2 st2 q2 rv2 => post v2 r2 H2 (st1.trans st2) q2 rv2) q1 rv
theorem lst_step {X : Cx} {es : CEs} {l : List Expr} {p : Pos} (sa : SA F X es l) (hk : chkEs g X.env.scope es l = true) (hl : l.length ≤ 1000) : SE F X (.lst es) (.List l p) := by
  intro s σ r H h v h' Q re q ev post
  simp only [evalC, Option.bind_eq_some_iff] at ev
  obtain ⟨⟨vs, h1⟩, e1, e2⟩ := ev
  obtain ⟨rfl, rfl⟩ := newc_eq e2
  refine PE.w (pe_lst (paW (chkEs_star hk))) ?_
  refine sa s σ r H h vs h1 _ re q e1 fun us r1 H1 st1 q1 rv => ?_
  refine ⟨?_, ?_⟩
  · rw [← rv.length, evalCs_len e1 hk, sizeLine_eq]; omega
  · exact PostE.lst (fun v2 r2 H2 st2 q2 rv2 => post v2 r2 H2 (st1.trans st2) q2 rv2) q1 rv
theorem dct0_step {X : Cx} {p : Pos} : SE F X .dct0 (.Dict [] [] p) := by
  intro s σ r H h v h' Q re q ev post
  simp only [evalC] at ev
  obtain ⟨rfl, rfl⟩ := newc_eq ev
  refine PE.w pe_dnewK fun a ha => ?_
  refine post _ (r ++ [a]) _ (Step.cell ha) (q.cell ha ⟨.dK [], upd_same, .inl ⟨[], rfl, .nil⟩⟩) (.ref ?_)
  rw [q.len]; simp
theorem ix_step {X : Cx} {a i : CE} {ea ei : Expr} {p : Pos} (W : Wd g F X) (sa : SE F X a ea) (si : SE F X i ei) (hs : isSl ei = false) : SE F X (.ix a i) (.Subscript ea ei p) := by
  intro s σ r H h v h' Q re q ev post
  simp only [evalC, Option.bind_eq_some_iff, Option.map_eq_some_iff] at ev
  obtain ⟨⟨x, h1⟩, e1, ⟨y, h2⟩, e2, w, e3, e4⟩ := ev
  cases e4
  refine PE.w (pe_ix ixW peW peW (slice_of (X := X) hs)) ?_
  refine sa s σ r H h x h1 _ re q e1 fun v1 r1 H1 st1 q1 rv1 => ?_
  refine si s σ r1 H1 h1 y h2 _ (re.step q st1) q1 e2 fun v2 r2 H2 st2 q2 rv2 => ?_
  exact ix_ok (by have := W.un; omega) q2 (rv1.step q1 st2) rv2 e3 fun v3 r3 H3 st3 q3 rv3 => post v3 r3 H3 (st1.trans (st2.trans st3)) q3 rv3
theorem poW {X : Cx} : ∀ {o : Option Expr}, PO X o (wOp X o)
  | none => po_none
  | some e => po_some peW
theorem sl_step {X : Cx} {a : CE} {lo hi : CO1} {ea : Expr} {l u : Option Expr} {p p2 : Pos} (sa : SE F X a ea) (sl : SO F X lo l) (su : SO F X hi u) : SE F X (.sl a lo hi) (.Subscript ea (.Slice l u none p2) p) := by
  intro s σ r H h v h' Q re q ev post
  simp only [evalC, Option.bind_eq_some_iff] at ev
  obtain ⟨⟨x, h1⟩, e1, ⟨o1, h2⟩, e2, ⟨o2, h3⟩, e3, e4⟩ := ev
  refine PE.w (pe_slice slW peW poW poW) ?_
  refine sa s σ r H h x h1 _ re q e1 fun v1 r1 H1 st1 q1 rv1 => ?_
  refine sl s σ r1 H1 h1 o1 h2 _ (re.step q st1) q1 e2 fun r2 H2 st2 q2 => ?_
  refine su s σ r2 H2 h2 o2 h3 _ ((re.step q st1).step q1 st2) q2 e3 fun r3 H3 st3 q3 => ?_
  exact sl_ok q3 ((rv1.step q1 st2).step q2 st3) e4 fun v4 r4 H4 st4 q4 rv4 => post v4 r4 H4 (st1.trans (st2.trans (st3.trans st4))) q4 rv4
theorem rev_step {X : Cx} {a : CE} {ea : Expr} {k : Nat} {p1 p2 p3 p : Pos} (sa : SE F X a ea) : SE F X (.rev a) (.Subscript ea (.Slice none none (some (.UnaryOp .USub (.Constant (.int 1) k p1) p2)) p3) p) := by
  intro s σ r H h v h' Q re q ev post
  simp only [evalC, Option.bind_eq_some_iff] at ev
  obtain ⟨⟨x, h1⟩, e1, e2⟩ := ev
  dsimp only at e2
  unfold revV at e2
  cases x with
  | ref n =>
    dsimp only at e2
    split at e2
    · rename_i xs hx
      obtain ⟨rfl, rfl⟩ := newc_eq e2
      refine PE.w (pe_revL peW) ?_
      refine sa s σ r H h _ h1 _ re q e1 fun v1 r1 H1 st1 q1 rv1 => ?_
      cases rv1 with | @ref _ a z =>
      obtain ⟨vs, g, us, _⟩ := rdl_at q1 hx z
      exact ⟨a, vs, rfl, g, PostE.lst (fun v2 r2 H2 st2 q2 rv2 => post v2 r2 H2 (st1.trans st2) q2 rv2) q1 us.reverse⟩
    · cases e2
  | _ => cases e2
theorem comp_rd {X : Cx} {elt cond : CE} {it : CI} {i : Nat} {ee ei : Expr} {ifs : List Expr} {x : Str} {scope : Scope} {px : Pos} (W : Wd g F X) (hb : blkB g X.env.scope scope i x = true)
    (se : ∀ s0 H0 C cl fp, SE F (fX X s0 H0 scope C cl fp) elt ee) (hi : (∃ ec, ifs = [ec] ∧ ∀ s0 H0 C cl fp, ST F (fX X s0 H0 scope C cl fp) cond ec) ∨ (ifs = [] ∧ cond = .lit (.bl true)))
    (si : SI F X it ei) (hset : isSet ei = false) : RdE F X (.comp elt i it cond) (tLc (wI' X (.Name x px) ei) (gName i) (uIf X scope ifs) (uE X scope ee) [i]) := by
  intro s σ r H h v h' Q re q ev post
  simp only [evalC, Option.bind_eq_some_iff] at ev
  obtain ⟨⟨src, h1⟩, e1, e2⟩ := ev
  split at e2
  · rename_i hl
    simp only [Option.bind_eq_some_iff] at e2
    obtain ⟨⟨acc2, h2⟩, e2, e3⟩ := e2
    obtain ⟨pe, hel, hct⟩ := comp_step (pos := px) W hb se hi (piW (X := X) (tg := .Name x px) (e := ei)) hset
    refine si (.Name x px) s σ r H h src h1 _ re q e1 fun J r1 H1 st1 q1 rj => ?_
    intro D hD
    refine comp_loop (Q := Q) rj q1 (re.step q st1) hel hct hl e2 D hD fun r' H' av st q' nD eD ra => ?_
    exact comp_post q st1 hD e3 post r' H' av st q' nD eD ra
  · cases e2
theorem compE_step {X : Cx} {elt cond : CE} {it : CI} {i : Nat} {ee ei : Expr} {ifs : List Expr} {x : Str} {scope : Scope} {px pos : Pos} (W : Wd g F X) (hb : blkB g X.env.scope scope i x = true)
    (se : ∀ s0 H0 C cl fp, SE F (fX X s0 H0 scope C cl fp) elt ee) (hi : (∃ ec, ifs = [ec] ∧ ∀ s0 H0 C cl fp, ST F (fX X s0 H0 scope C cl fp) cond ec) ∨ (ifs = [] ∧ cond = .lit (.bl true)))
    (si : SI F X it ei) (hset : isSet ei = false) : SE F X (.comp elt i it cond) (.ListComp ee [⟨.Name x px, ei, ifs, 0⟩] scope pos) := by
  intro s σ r H h v h' Q re q ev post
  exact PE.w (comp_step (pos := pos) W hb se hi (piW (X := X) (tg := .Name x px) (e := ei)) hset).1 (comp_rd W hb se hi si hset s σ r H h v h' Q re q ev post)
end
end TH

set_option maxHeartbeats 8000000
/-! Expressions: the induction. -/
namespace TH
open PySem PySem.Spec PyProof.Rows L2
section
variable {g : Names} {F : Fns}
theorem range1_step {X : Cx} {a : CE} {ea : Expr} {p pos : Pos} (W : Wd g F X) (sa : SE F X a ea) (hst : star ea = false) (hg : glB X.env.scope "range" = true) : SI F X (.range1 a) (.Call (.Name "range" p) [ea] [] pos) := by
  intro tg s σ r H h src h' R re q ev post
  simp only [evalI, Option.bind_eq_some_iff] at ev
  obtain ⟨⟨x, h1⟩, e1, e2⟩ := ev
  dsimp only at e2
  cases x with
  | int j =>
    dsimp only at e2
    split at e2
    · rename_i hj
      cases e2
      obtain ⟨j1, j2⟩ := small_of hj
      refine PI.w (pi_range1 (gl_of hg) (W.bl _ (by decide +kernel)) (pa_cons peW pa_nil (star_each hst)) (star_each hst)) ?_
      refine sa s σ r H h _ _ _ re q e1 fun v1 r1 H1 st1 q1 rv1 => ?_
      cases rv1
      exact ⟨j, rfl, j1, j2, post _ r1 H1 st1 q1 rj_ints⟩
    · cases e2
  | _ => cases e2
theorem range2_step {X : Cx} {a b : CE} {ea eb : Expr} {p pos : Pos} (W : Wd g F X) (sa : SE F X a ea) (sb : SE F X b eb) (hst : star ea = false) (hst2 : star eb = false) (hg : glB X.env.scope "range" = true) : SI F X (.range2 a b) (.Call (.Name "range" p) [ea, eb] [] pos) := by
  intro tg s σ r H h src h' R re q ev post
  simp only [evalI, Option.bind_eq_some_iff] at ev
  obtain ⟨⟨x, h1⟩, e1, ⟨y, h2⟩, e2, e3⟩ := ev
  dsimp only at e3 e2
  split at e3
  · rename_i i j
    split at e3
    · rename_i hj
      cases e3
      rw [Bool.and_eq_true] at hj
      obtain ⟨i1, i2⟩ := small_of hj.1
      obtain ⟨j1, j2⟩ := small_of hj.2
      refine PI.w (pi_range2 (gl_of hg) (W.bl _ (by decide +kernel)) (pa_cons peW (pa_cons peW pa_nil (star_each hst2)) (star_each hst)) (by rw [star_each hst, star_each hst2]; rfl) (star_each hst2)) ?_
      refine sa s σ r H h _ _ _ re q e1 fun v1 r1 H1 st1 q1 rv1 => ?_
      refine sb s σ r1 H1 _ _ _ _ (re.step q st1) q1 e2 fun v2 r2 H2 st2 q2 rv2 => ?_
      cases rv1
      cases rv2
      exact ⟨i, j, rfl, ⟨i1, i2, j1, j2⟩, post _ r2 H2 (st1.trans st2) q2 rj_ints⟩
    · cases e3
  · cases e3
theorem val_step {X : Cx} {a : CE} {ea : Expr} (sa : SE F X a ea) : SI F X (.val a) ea := by
  intro tg s σ r H h src h' R re q ev post
  simp only [evalI, Option.bind_eq_some_iff] at ev
  obtain ⟨⟨x, h1⟩, e1, e2⟩ := ev
  dsimp only at e2
  cases x with
  | tup xs =>
    simp only [srcOf, Option.some.injEq, Prod.mk.injEq] at e2
    obtain ⟨rfl, rfl⟩ := e2
    refine PI.w (pi_tup peW) ?_
    refine sa s σ r H h _ _ _ re q e1 fun v1 r1 H1 st1 q1 rv1 => ?_
    cases rv1 with | tup t us =>
    exact ⟨_, rfl, ⟨_, SqT.of t⟩, post _ r1 H1 st1 q1 (rj_tup q1 t us)⟩
  | str t =>
    simp only [srcOf, Option.some.injEq, Prod.mk.injEq] at e2
    obtain ⟨rfl, rfl⟩ := e2
    refine PI.w (pi_str peW) ?_
    refine sa s σ r H h _ _ _ re q e1 fun v1 r1 H1 st1 q1 rv1 => ?_
    cases rv1
    exact ⟨_, rfl, post _ r1 H1 st1 q1 rj_str⟩
  | ref n =>
    have key : ∀ xs, rdl h1 n = some xs → src = .cell n ∧ h' = h1 → wI' X tg ea σ H R := by
      rintro xs hx ⟨rfl, rfl⟩
      refine PI.w (pi_list peW) ?_
      refine sa s σ r H h _ _ _ re q e1 fun v1 r1 H1 st1 q1 rv1 => ?_
      cases rv1 with | @ref _ a z =>
      obtain ⟨vs, g, us, _⟩ := rdl_at q1 hx z
      exact ⟨a, rfl, ⟨vs, g⟩, post _ r1 H1 st1 q1 (rj_cell z)⟩
    simp only [srcOf] at e2
    split at e2
    · rename_i xs hx
      cases e2
      exact key xs (by simp [rdl, hx]) ⟨rfl, rfl⟩
    · rename_i xs hx
      cases e2
      exact key xs (by simp [rdl, hx]) ⟨rfl, rfl⟩
    · cases e2
  | _ => simp [srcOf] at e2
mutual
theorem seE : ∀ (c : CE) {X : Cx} (W : Wd g F X) {e : Expr}, chkE g X.env.scope c e = true → SE F X c e
  | .var i, X, W, e, hc => by
    simp only [chkE] at hc
    split at hc
    · rename_i x hx
      obtain ⟨p, rfl⟩ := asName_eq hx
      exact var_step W hc
    · cases hc
  | .lit v, X, W, e, hc => by
    simp only [chkE] at hc
    split at hc
    · rename_i x hx
      obtain ⟨k, p, rfl⟩ := asConst_eq hx
      exact lit_step hc
    · cases hc
  | .glob nm v, X, W, e, hc => by
    simp only [chkE] at hc
    split at hc
    · rename_i x hx
      obtain ⟨p, rfl⟩ := asName_eq hx
      simp only [Bool.and_eq_true, decide_eq_true_eq, Bool.not_eq_true'] at hc
      obtain ⟨⟨⟨rfl, h2⟩, h3⟩, h4⟩ := hc
      exact glob_step W h2 h3 h4
    · cases hc
  | .bin o a b, X, W, e, hc => by
    simp only [chkE] at hc
    split at hc
    · rename_i x hx
      obtain ⟨p, rfl⟩ := asBin_eq hx
      simp only [Bool.and_eq_true] at hc
      obtain ⟨⟨h1, h2⟩, h3⟩ := hc
      rw [opB_eq h1]
      exact bin_step (seE a W h2) (seE b W h3)
    · cases hc
  | .cmp o a b, X, W, e, hc => by
    simp only [chkE] at hc
    split at hc
    · rename_i x hx
      obtain ⟨p, rfl⟩ := asCmp_eq hx
      simp only [Bool.and_eq_true, Bool.not_eq_true'] at hc
      obtain ⟨⟨⟨h1, h2⟩, h3⟩, h4⟩ := hc
      rw [coB_eq h1]
      exact cmp_step W (seE a W h2) (seE b W h3) h4
    · cases hc
  | .cmp2 o o2 a b c, X, W, e, hc => by
    simp only [chkE] at hc
    split at hc
    · rename_i x hx
      obtain ⟨p, rfl⟩ := asCmp_eq hx
      simp only [Bool.and_eq_true, Bool.not_eq_true'] at hc
      obtain ⟨⟨⟨⟨⟨h1, h2⟩, h3⟩, h4⟩, h5⟩, h6⟩ := hc
      rw [coB_eq h1, coB_eq h2]
      exact cmp2_step W (seE a W h3) (seE b W h4) (seE c W h5) h6
    · cases hc
  | .cmp3 o o2 o3 a b c d, X, W, e, hc => by
    simp only [chkE] at hc
    split at hc
    · rename_i x hx
      obtain ⟨p, rfl⟩ := asCmp_eq hx
      simp only [Bool.and_eq_true, Bool.not_eq_true'] at hc
      obtain ⟨⟨⟨⟨⟨⟨⟨h1, h2⟩, h3⟩, h4⟩, h5⟩, h6⟩, h7⟩, h8⟩ := hc
      rw [coB_eq h1, coB_eq h2, coB_eq h3]
      exact cmp3_step W (seE a W h4) (seE b W h5) (seE c W h6) (seE d W h7) h8
    · cases hc
  | .and a b, X, W, e, hc => by
    simp only [chkE] at hc
    split at hc
    · rename_i x hx
      cases asBool_eq hx
      simp only [Bool.and_eq_true] at hc
      exact and_step (seE a W hc.1) (one_step (seE b W hc.2))
    · rename_i x hx
      cases asBool_eq hx
      simp only [Bool.and_eq_true] at hc
      exact and_step (seE a W hc.1) (seE b W hc.2)
    · cases hc
  | .or a b, X, W, e, hc => by
    simp only [chkE] at hc
    split at hc
    · rename_i x hx
      cases asBool_eq hx
      simp only [Bool.and_eq_true] at hc
      exact or_step (seE a W hc.1) (one_step (seE b W hc.2))
    · rename_i x hx
      cases asBool_eq hx
      simp only [Bool.and_eq_true] at hc
      exact or_step (seE a W hc.1) (seE b W hc.2)
    · cases hc
  | .not a, X, W, e, hc => by
    simp only [chkE] at hc
    split at hc
    · rename_i x hx
      obtain ⟨p, rfl⟩ := asUn_eq hx
      exact not_step (seE a W hc)
    · cases hc
  | .neg a, X, W, e, hc => by
    simp only [chkE] at hc
    split at hc
    · rename_i x hx
      obtain ⟨p, rfl⟩ := asUn_eq hx
      exact neg_step (seE a W hc)
    · cases hc
  | .ite c a b, X, W, e, hc => by
    simp only [chkE] at hc
    split at hc
    · rename_i x hx
      obtain ⟨p, rfl⟩ := asIf_eq hx
      simp only [Bool.and_eq_true] at hc
      exact ite_step (seT c W hc.1.1) (seE a W hc.1.2) (seE b W hc.2)
    · cases hc
  | .tup es, X, W, e, hc => by
    simp only [chkE] at hc
    split at hc
    · rename_i x hx
      obtain ⟨k, p, rfl⟩ := asTup_eq hx
      simp only [Bool.and_eq_true, decide_eq_true_eq] at hc
      exact tup_step2 (kk := k) (seEs es W hc.1) hc.1 hc.2
    · cases hc
  | .lst es, X, W, e, hc => by
    simp only [chkE] at hc
    split at hc
    · rename_i x hx
      obtain ⟨p, rfl⟩ := asLst_eq hx
      simp only [Bool.and_eq_true, decide_eq_true_eq] at hc
      exact lst_step (seEs es W hc.1) hc.1 hc.2
    · cases hc
  | .dct0, X, W, e, hc => by
    simp only [chkE] at hc
    obtain ⟨p, rfl⟩ := isDct0_eq hc
    exact dct0_step
  | .ix a i, X, W, e, hc => by
    simp only [chkE] at hc
    split at hc
    · rename_i x hx
      obtain ⟨p, rfl⟩ := asSub_eq hx
      simp only [Bool.and_eq_true, Bool.not_eq_true'] at hc
      exact ix_step W (seE a W hc.1.1) (seE i W hc.1.2) hc.2
    · cases hc
  | .sl a lo hi, X, W, e, hc => by
    simp only [chkE] at hc
    split at hc
    · rename_i x hx
      obtain ⟨p, rfl⟩ := asSub_eq hx
      split at hc
      · rename_i l u hx2
        obtain ⟨p2, rfl⟩ := asSlc_eq hx2
        simp only [Bool.and_eq_true] at hc
        exact sl_step (seE a W hc.1.1) (seO lo W hc.1.2) (seO hi W hc.2)
      · cases hc
    · cases hc
  | .rev a, X, W, e, hc => by
    simp only [chkE] at hc
    split at hc
    · rename_i x hx
      obtain ⟨p, rfl⟩ := asSub_eq hx
      split at hc
      · rename_i u hx2
        obtain ⟨p2, rfl⟩ := asSlc_eq hx2
        simp only [Bool.and_eq_true] at hc
        obtain ⟨k, p3, p4, rfl⟩ := isOne_eq hc.2
        exact rev_step (seE a W hc.1)
      · cases hc
    · cases hc
  | .call f es, X, W, e, hc => by
    simp only [chkE] at hc
    split at hc
    · rename_i x l hx
      obtain ⟨p, p2, rfl⟩ := asCall_eq hx
      simp only [Bool.and_eq_true, Bool.not_eq_true'] at hc
      exact call_step W (seEs es W hc.1.1.1) hc.1.1.1 hc.1.1.2 hc.1.2 hc.2
    · cases hc
  | .bi f es, X, W, e, hc => by
    simp only [chkE] at hc
    split at hc
    · rename_i x l hx
      obtain ⟨p, p2, rfl⟩ := asCall_eq hx
      simp only [Bool.and_eq_true, decide_eq_true_eq] at hc
      obtain ⟨⟨rfl, h2⟩, h3⟩ := hc
      have pl : ∀ (hk : chkEs g X.env.scope es l = true) (hn : l ≠ []) (hf : ∀ t, f ≠ .isi t), SE F X (.bi f es) (.Call (.Name (Str.ofString (biN f)) p) l [] p2) := fun hk hn hf => bi_step W (seEs es W hk) hk hn hf h2
      cases f with
      | isi t =>
        dsimp only at h3
        split at h3
        · rename_i ea ey
          simp only [Bool.and_eq_true] at h3
          obtain ⟨h4, h5⟩ := h3
          split at h5
          · rename_i y hy
            obtain ⟨p3, rfl⟩ := asName_eq hy
            simp only [Bool.and_eq_true, decide_eq_true_eq] at h5
            obtain ⟨rfl, h6⟩ := h5
            exact isi_step W (seEs es W h4) h4 h2 h6
          · cases h5
        · cases h3
      | _ =>
        simp only [Bool.and_eq_true, Bool.not_eq_true', List.isEmpty_eq_false_iff] at h3
        exact pl h3.1 h3.2 fun t e => by cases e
    · cases hc
  | .me m o es, X, W, e, hc => by
    simp only [chkE] at hc
    split at hc
    · rename_i eo nm ap l p hx
      cases asMeth_eq hx
      simp only [Bool.and_eq_true, decide_eq_true_eq, Bool.not_eq_true'] at hc
      obtain ⟨⟨⟨⟨⟨h1, h2⟩, rfl⟩, h4⟩, h5⟩, h6⟩ := hc
      exact me_step W (seE o W h1) (seEs es W h2) h2 h4 h5 h6
    · cases hc
  | .comp elt i it cond, X, W, e, hc => by
    simp only [chkE] at hc
    split at hc
    · rename_i ee x ei ifs scope hx
      obtain ⟨p, p2, rfl⟩ := asComp_eq hx
      simp only [Bool.and_eq_true] at hc
      obtain ⟨⟨⟨h1, h2⟩, h3⟩, h4⟩ := hc
      have hset : isSet ei = false := by
        cases it with
        | val a => simp only [chkI, Bool.and_eq_true, Bool.not_eq_true'] at h1; exact h1.2
        | range1 a => cases ei <;> first | rfl | (simp [chkI, asCall] at h1)
        | range2 a b => cases ei <;> first | rfl | (simp [chkI, asCall] at h1)
      refine compE_step W h2 (fun s0 H0 C cl fp => seE elt (X := fX X s0 H0 scope C cl fp) W.blk h3) ?_ (seI it W h1) hset
      split at h4
      · split at h4
        · exact .inr ⟨rfl, rfl⟩
        · cases h4
      · exact .inl ⟨_, rfl, fun s0 H0 C cl fp => seT cond (X := fX X s0 H0 scope C cl fp) W.blk h4⟩
      · cases h4
    · cases hc
  | .compD elt i vl d cond, X, W, e, hc => by
    simp only [chkE] at hc
    split at hc
    · rename_i ee x ei ifs scope hx
      obtain ⟨p, p2, rfl⟩ := asComp_eq hx
      simp only [Bool.and_eq_true] at hc
      obtain ⟨⟨⟨h1, h2⟩, h3⟩, h4⟩ := hc
      refine compD_step W h2 (fun s0 H0 C cl fp => seE elt (X := fX X s0 H0 scope C cl fp) W.blk h3) ?_ ?_
      · split at h4
        · split at h4
          · exact .inr ⟨rfl, rfl⟩
          · cases h4
        · exact .inl ⟨_, rfl, fun s0 H0 C cl fp => seT cond (X := fX X s0 H0 scope C cl fp) W.blk h4⟩
        · cases h4
      · cases vl with
        | false =>
          dsimp only at h1
          split at h1
          · rename_i y hy
            obtain ⟨p3, rfl⟩ := asName_eq hy
            exact .inl ⟨rfl, y, p3, rfl, h1⟩
          · cases h1
        | true =>
          dsimp only at h1
          split at h1
          · rename_i eo nm ap p4 hm
            split at h1
            · rename_i y hy
              obtain ⟨p3, rfl⟩ := asName_eq hy
              simp only [Bool.and_eq_true, decide_eq_true_eq] at h1
              obtain ⟨⟨h5, rfl⟩, h6⟩ := h1
              exact .inr ⟨rfl, y, p3, ap, p4, asMeth_eq hm, h5, h6⟩
            · cases h1
          · cases h1
    · cases hc
theorem seEs : ∀ (cs : CEs) {X : Cx} (W : Wd g F X) {l : List Expr}, chkEs g X.env.scope cs l = true → SA F X cs l
  | .nil, X, W, l, hc => by
    simp only [chkEs, List.isEmpty_iff] at hc
    subst hc
    intro s σ r H h vs h' Q re q ev post
    simp only [evalCs, Option.some.injEq, Prod.mk.injEq] at ev
    obtain ⟨rfl, rfl⟩ := ev
    exact post [] r H .refl q .nil
  | .cons c cs, X, W, [], hc => by simp [chkEs] at hc
  | .cons c cs, X, W, e :: es, hc => by
    simp only [chkEs, Bool.and_eq_true] at hc
    have s1 := seE c W hc.1
    have s2 := seEs cs W hc.2
    intro s σ r H h vs h' Q re q ev post
    simp only [evalCs, Option.bind_eq_some_iff, Option.map_eq_some_iff] at ev
    obtain ⟨⟨x, h1⟩, e1, ⟨xs, h2⟩, e2, e3⟩ := ev
    cases e3
    refine s1 s σ r H h x h1 _ re q e1 fun v1 r1 H1 st1 q1 rv1 => ?_
    exact s2 s σ r1 H1 h1 xs _ _ (re.step q st1) q1 e2 fun us r2 H2 st2 q2 rv2 => post (v1 :: us) r2 H2 (st1.trans st2) q2 (.cons (rv1.step q1 st2) rv2)
theorem seO : ∀ (c : CO1) {X : Cx} (W : Wd g F X) {o : Option Expr}, chkO g X.env.scope c o = true → SO F X c o
  | .no, X, W, o, hc => by
    simp only [chkO, Option.isNone_iff_eq_none] at hc
    subst hc
    intro s σ r H h o h' Q re q ev post
    simp only [evalO, Option.some.injEq, Prod.mk.injEq] at ev
    obtain ⟨rfl, rfl⟩ := ev
    exact post r H .refl q
  | .ex a, X, W, none, hc => by simp [chkO] at hc
  | .ex a, X, W, some e, hc => by
    simp only [chkO] at hc
    have s1 := seE a W hc
    intro s σ r H h o h' Q re q ev post
    simp only [evalO, Option.bind_eq_some_iff] at ev
    obtain ⟨⟨x, h1⟩, e1, e2⟩ := ev
    dsimp only at e2
    cases x with
    | int i =>
      cases e2
      refine s1 s σ r H h _ _ _ re q e1 fun v1 r1 H1 st1 q1 rv1 => ?_
      cases rv1
      exact ⟨i, rfl, post r1 H1 st1 q1⟩
    | _ => cases e2
theorem seI : ∀ (c : CI) {X : Cx} (W : Wd g F X) {e : Expr}, chkI g X.env.scope c e = true → SI F X c e
  | .range1 a, X, W, e, hc => by
    simp only [chkI] at hc
    split at hc
    · rename_i x ea hx
      obtain ⟨p, p2, rfl⟩ := asCall_eq hx
      simp only [Bool.and_eq_true, decide_eq_true_eq] at hc
      obtain ⟨⟨h1, rfl⟩, h3⟩ := hc
      exact range1_step W (seE a W h1) (chk_star h1) h3
    · cases hc
  | .range2 a b, X, W, e, hc => by
    simp only [chkI] at hc
    split at hc
    · rename_i x ea eb hx
      obtain ⟨p, p2, rfl⟩ := asCall_eq hx
      simp only [Bool.and_eq_true, decide_eq_true_eq] at hc
      obtain ⟨⟨⟨h1, h2⟩, rfl⟩, h3⟩ := hc
      exact range2_step W (seE a W h1) (seE b W h2) (chk_star h1) (chk_star h2) h3
    · cases hc
  | .val a, X, W, e, hc => by
    simp only [chkI, Bool.and_eq_true] at hc
    exact val_step (seE a W hc.1)
theorem seT : ∀ (c : CE) {X : Cx} (W : Wd g F X) {e : Expr}, chkE g X.env.scope c e = true → ST F X c e
  | .not a, X, W, e, hc => by
    simp only [chkE] at hc
    split at hc
    · rename_i x hx
      obtain ⟨p, rfl⟩ := asUn_eq hx
      exact notT_step (seT a W hc)
    · cases hc
  | .cmp o a b, X, W, e, hc => by
    simp only [chkE] at hc
    split at hc
    · rename_i x hx
      obtain ⟨p, rfl⟩ := asCmp_eq hx
      simp only [Bool.and_eq_true, Bool.not_eq_true'] at hc
      obtain ⟨⟨⟨h1, h2⟩, h3⟩, h4⟩ := hc
      rw [coB_eq h1]
      exact cmpT_step W (seE a W h2) (seE b W h3) h4
    · cases hc
  | .cmp2 o o2 a b c, X, W, e, hc => by
    simp only [chkE] at hc
    split at hc
    · rename_i x hx
      obtain ⟨p, rfl⟩ := asCmp_eq hx
      simp only [Bool.and_eq_true, Bool.not_eq_true'] at hc
      obtain ⟨⟨⟨⟨⟨h1, h2⟩, h3⟩, h4⟩, h5⟩, h6⟩ := hc
      rw [coB_eq h1, coB_eq h2]
      exact cmp2T_step W (seE a W h3) (seE b W h4) (seE c W h5) h6
    · cases hc
  | .cmp3 o o2 o3 a b c d, X, W, e, hc => by
    simp only [chkE] at hc
    split at hc
    · rename_i x hx
      obtain ⟨p, rfl⟩ := asCmp_eq hx
      simp only [Bool.and_eq_true, Bool.not_eq_true'] at hc
      obtain ⟨⟨⟨⟨⟨⟨⟨h1, h2⟩, h3⟩, h4⟩, h5⟩, h6⟩, h7⟩, h8⟩ := hc
      rw [coB_eq h1, coB_eq h2, coB_eq h3]
      exact cmp3T_step W (seE a W h4) (seE b W h5) (seE c W h6) (seE d W h7) h8
    · cases hc
  | .and a b, X, W, e, hc => by
    simp only [chkE] at hc
    split at hc
    · rename_i x hx
      cases asBool_eq hx
      simp only [Bool.and_eq_true] at hc
      have hb : RdT F X b _ := seT b W hc.2
      obtain ⟨t2, p1, p2⟩ := andT_step (seT a W hc.1) (pw_and1 ptW) hb
      exact fun s σ r H h v h' Q re q ev post => PT.w (PW.pt p1) (p2 s σ r H h v h' Q re q ev post)
    · rename_i x hx
      cases asBool_eq hx
      simp only [Bool.and_eq_true] at hc
      obtain ⟨t, p3, p4⟩ := seWA b W hc.2
      obtain ⟨t2, p1, p2⟩ := andT_step (seT a W hc.1) p3 p4
      exact fun s σ r H h v h' Q re q ev post => PT.w (PW.pt p1) (p2 s σ r H h v h' Q re q ev post)
    · cases hc
  | .or a b, X, W, e, hc => by
    simp only [chkE] at hc
    split at hc
    · rename_i x hx
      cases asBool_eq hx
      simp only [Bool.and_eq_true] at hc
      have hb : RdT F X b _ := seT b W hc.2
      obtain ⟨t2, p1, p2⟩ := orT_step (seT a W hc.1) (pw_or1 ptW) hb
      exact fun s σ r H h v h' Q re q ev post => PT.w (PW.pt p1) (p2 s σ r H h v h' Q re q ev post)
    · rename_i x hx
      cases asBool_eq hx
      simp only [Bool.and_eq_true] at hc
      obtain ⟨t, p3, p4⟩ := seWO b W hc.2
      obtain ⟨t2, p1, p2⟩ := orT_step (seT a W hc.1) p3 p4
      exact fun s σ r H h v h' Q re q ev post => PT.w (PW.pt p1) (p2 s σ r H h v h' Q re q ev post)
    · cases hc
  | .lit v, X, W, e, hc => st_plain (by simp only [chkE] at hc; split at hc <;> first | (cases hc; done) | (rename_i x hx; obtain ⟨k, p, rfl⟩ := asConst_eq hx; rfl)) (seE (.lit v) W hc)
  | .var i, X, W, e, hc => st_plain (by simp only [chkE] at hc; split at hc <;> first | (cases hc; done) | (rename_i x hx; obtain ⟨p, rfl⟩ := asName_eq hx; rfl)) (seE (.var i) W hc)
  | .call f es, X, W, e, hc => st_plain (by simp only [chkE] at hc; split at hc <;> first | (cases hc; done) | (rename_i x l hx; obtain ⟨p, p2, rfl⟩ := asCall_eq hx; rfl)) (seE (.call f es) W hc)
  | .bi f es, X, W, e, hc => st_plain (by simp only [chkE] at hc; split at hc <;> first | (cases hc; done) | (rename_i x l hx; obtain ⟨p, p2, rfl⟩ := asCall_eq hx; rfl)) (seE (.bi f es) W hc)
  | .glob _ _, _, _, _, _ => fun s σ r H h v h' Q re q ev post => by simp [testC] at ev
  | .bin _ _ _, _, _, _, _ => fun s σ r H h v h' Q re q ev post => by simp [testC] at ev
  | .neg _, _, _, _, _ => fun s σ r H h v h' Q re q ev post => by simp [testC] at ev
  | .ite _ _ _, _, _, _, _ => fun s σ r H h v h' Q re q ev post => by simp [testC] at ev
  | .tup _, _, _, _, _ => fun s σ r H h v h' Q re q ev post => by simp [testC] at ev
  | .lst _, _, _, _, _ => fun s σ r H h v h' Q re q ev post => by simp [testC] at ev
  | .dct0, _, _, _, _ => fun s σ r H h v h' Q re q ev post => by simp [testC] at ev
  | .ix _ _, _, _, _, _ => fun s σ r H h v h' Q re q ev post => by simp [testC] at ev
  | .sl _ _ _, _, _, _, _ => fun s σ r H h v h' Q re q ev post => by simp [testC] at ev
  | .rev _, _, _, _, _ => fun s σ r H h v h' Q re q ev post => by simp [testC] at ev
  | .me _ _ _, _, _, _, _ => fun s σ r H h v h' Q re q ev post => by simp [testC] at ev
  | .comp _ _ _ _, _, _, _, _ => fun s σ r H h v h' Q re q ev post => by simp [testC] at ev
  | .compD _ _ _ _ _, _, _, _, _ => fun s σ r H h v h' Q re q ev post => by simp [testC] at ev
theorem seWA : ∀ (c : CE) {X : Cx} (W : Wd g F X) {eb ec : Expr} {er : List Expr} {p : Pos}, chkE g X.env.scope c (.BoolOp .And (eb :: ec :: er) p) = true → ∃ t, PW X (.BoolOp .And (eb :: ec :: er) p) t ∧ RdT F X c t
  | .and a b, X, W, eb, ec, er, p, hc => by
    simp only [chkE, asBool] at hc
    split at hc
    · rename_i x hx
      cases hx
      simp only [Bool.and_eq_true] at hc
      have hb : RdT F X b _ := seT b W hc.2
      exact andT_step (seT a W hc.1) (pw_and1 ptW) hb
    · rename_i x hx
      cases hx
      simp only [Bool.and_eq_true] at hc
      obtain ⟨t, p3, p4⟩ := seWA b W hc.2
      exact andT_step (seT a W hc.1) p3 p4
    · cases hc
  | .or a b, X, W, eb, ec, er, p, hc => by simp [chkE, asBool] at hc
  | .var _, X, W, eb, ec, er, p, hc => by simp [chkE, asName] at hc
  | .lit _, X, W, eb, ec, er, p, hc => by simp [chkE, asConst] at hc
  | .glob _ _, X, W, eb, ec, er, p, hc => by simp [chkE, asName] at hc
  | .bin _ _ _, X, W, eb, ec, er, p, hc => by simp [chkE, asBin] at hc
  | .cmp _ _ _, X, W, eb, ec, er, p, hc => by simp [chkE, asCmp] at hc
  | .cmp2 _ _ _ _ _, X, W, eb, ec, er, p, hc => by simp [chkE, asCmp] at hc
  | .cmp3 _ _ _ _ _ _ _, X, W, eb, ec, er, p, hc => by simp [chkE, asCmp] at hc
  | .not _, X, W, eb, ec, er, p, hc => by simp [chkE, asUn] at hc
  | .neg _, X, W, eb, ec, er, p, hc => by simp [chkE, asUn] at hc
  | .ite _ _ _, X, W, eb, ec, er, p, hc => by simp [chkE, asIf] at hc
  | .tup _, X, W, eb, ec, er, p, hc => by simp [chkE, asTup] at hc
  | .lst _, X, W, eb, ec, er, p, hc => by simp [chkE, asLst] at hc
  | .dct0, X, W, eb, ec, er, p, hc => by simp [chkE, isDct0] at hc
  | .ix _ _, X, W, eb, ec, er, p, hc => by simp [chkE, asSub] at hc
  | .sl _ _ _, X, W, eb, ec, er, p, hc => by simp [chkE, asSub] at hc
  | .rev _, X, W, eb, ec, er, p, hc => by simp [chkE, asSub] at hc
  | .call _ _, X, W, eb, ec, er, p, hc => by simp [chkE, asCall] at hc
  | .bi _ _, X, W, eb, ec, er, p, hc => by simp [chkE, asCall] at hc
  | .me _ _ _, X, W, eb, ec, er, p, hc => by simp [chkE, asMeth] at hc
  | .comp _ _ _ _, X, W, eb, ec, er, p, hc => by simp [chkE, asComp] at hc
  | .compD _ _ _ _ _, X, W, eb, ec, er, p, hc => by simp [chkE, asComp] at hc
theorem seWO : ∀ (c : CE) {X : Cx} (W : Wd g F X) {eb ec : Expr} {er : List Expr} {p : Pos}, chkE g X.env.scope c (.BoolOp .Or (eb :: ec :: er) p) = true → ∃ t, PW X (.BoolOp .Or (eb :: ec :: er) p) t ∧ RdT F X c t
  | .or a b, X, W, eb, ec, er, p, hc => by
    simp only [chkE, asBool] at hc
    split at hc
    · rename_i x hx
      cases hx
      simp only [Bool.and_eq_true] at hc
      have hb : RdT F X b _ := seT b W hc.2
      exact orT_step (seT a W hc.1) (pw_or1 ptW) hb
    · rename_i x hx
      cases hx
      simp only [Bool.and_eq_true] at hc
      obtain ⟨t, p3, p4⟩ := seWO b W hc.2
      exact orT_step (seT a W hc.1) p3 p4
    · cases hc
  | .and a b, X, W, eb, ec, er, p, hc => by simp [chkE, asBool] at hc
  | .var _, X, W, eb, ec, er, p, hc => by simp [chkE, asName] at hc
  | .lit _, X, W, eb, ec, er, p, hc => by simp [chkE, asConst] at hc
  | .glob _ _, X, W, eb, ec, er, p, hc => by simp [chkE, asName] at hc
  | .bin _ _ _, X, W, eb, ec, er, p, hc => by simp [chkE, asBin] at hc
  | .cmp _ _ _, X, W, eb, ec, er, p, hc => by simp [chkE, asCmp] at hc
  | .cmp2 _ _ _ _ _, X, W, eb, ec, er, p, hc => by simp [chkE, asCmp] at hc
  | .cmp3 _ _ _ _ _ _ _, X, W, eb, ec, er, p, hc => by simp [chkE, asCmp] at hc
  | .not _, X, W, eb, ec, er, p, hc => by simp [chkE, asUn] at hc
  | .neg _, X, W, eb, ec, er, p, hc => by simp [chkE, asUn] at hc
  | .ite _ _ _, X, W, eb, ec, er, p, hc => by simp [chkE, asIf] at hc
  | .tup _, X, W, eb, ec, er, p, hc => by simp [chkE, asTup] at hc
  | .lst _, X, W, eb, ec, er, p, hc => by simp [chkE, asLst] at hc
  | .dct0, X, W, eb, ec, er, p, hc => by simp [chkE, isDct0] at hc
  | .ix _ _, X, W, eb, ec, er, p, hc => by simp [chkE, asSub] at hc
  | .sl _ _ _, X, W, eb, ec, er, p, hc => by simp [chkE, asSub] at hc
  | .rev _, X, W, eb, ec, er, p, hc => by simp [chkE, asSub] at hc
  | .call _ _, X, W, eb, ec, er, p, hc => by simp [chkE, asCall] at hc
  | .bi _ _, X, W, eb, ec, er, p, hc => by simp [chkE, asCall] at hc
  | .me _ _ _, X, W, eb, ec, er, p, hc => by simp [chkE, asMeth] at hc
  | .comp _ _ _ _, X, W, eb, ec, er, p, hc => by simp [chkE, asComp] at hc
  | .compD _ _ _ _ _, X, W, eb, ec, er, p, hc => by simp [chkE, asComp] at hc
end
end
end TH

set_option maxHeartbeats 8000000
/-! Statements: which text they tell; targets. -/
namespace TH
open PySem PySem.Spec PyProof.Rows L2

def asAsg : Stmt → Option (Expr × Expr × Pos)
  | .Assign [tg] e p => some (tg, e, p) | _ => none
def asExprS : Stmt → Option (Expr × Pos)
  | .Expr e p => some (e, p) | _ => none
def asRet : Stmt → Option Expr
  | .Return (some e) _ => some e | _ => none
def isRetN : Stmt → Bool
  | .Return none _ => true | _ => false
def asIfS : Stmt → Option (Expr × List Stmt × List Stmt)
  | .If c a b _ => some (c, a, b) | _ => none
def asFor : Stmt → Option (Expr × Expr × List Stmt)
  | .For tg it b [] _ => some (tg, it, b) | _ => none
def asWh : Stmt → Option (Expr × List Stmt)
  | .While c b [] _ => some (c, b) | _ => none
def isPass : Stmt → Bool
  | .Pass _ => true
  | .Expr (.Constant (.str _) _ _) _ => true
  | _ => false
section
variable {st : Stmt}
theorem asAsg_eq {tg e : Expr} {p : Pos} (h : asAsg st = some (tg, e, p)) : st = .Assign [tg] e p := by
  unfold asAsg at h
  split at h
  · cases h; rfl
  · cases h
theorem asExprS_eq {e : Expr} {p : Pos} (h : asExprS st = some (e, p)) : st = .Expr e p := by cases st <;> simp_all [asExprS]
theorem asRet_eq {e : Expr} (h : asRet st = some e) : ∃ p, st = .Return (some e) p := by
  unfold asRet at h
  split at h
  · cases h; exact ⟨_, rfl⟩
  · cases h
theorem isRetN_eq (h : isRetN st = true) : ∃ p, st = .Return none p := by
  unfold isRetN at h
  split at h
  · exact ⟨_, rfl⟩
  · cases h
theorem asIfS_eq {c : Expr} {a b : List Stmt} (h : asIfS st = some (c, a, b)) : ∃ p, st = .If c a b p := by cases st <;> simp_all [asIfS]
theorem asFor_eq {c i : Expr} {a : List Stmt} (h : asFor st = some (c, i, a)) : ∃ p, st = .For c i a [] p := by
  unfold asFor at h
  split at h
  · cases h; exact ⟨_, rfl⟩
  · cases h
theorem asWh_eq {c : Expr} {a : List Stmt} (h : asWh st = some (c, a)) : ∃ p, st = .While c a [] p := by
  unfold asWh at h
  split at h
  · cases h; exact ⟨_, rfl⟩
  · cases h
end
def isComp : Expr → Bool
  | .ListComp _ _ _ _ => true | .SetComp _ _ _ _ => true | .DictComp _ _ _ _ _ => true | _ => false
def isNm : Expr → Bool
  | .Name _ _ => true | _ => false
def tupOf : Expr → Option (List Expr)
  | .Tuple l _ _ => some l | .List l _ => some l | _ => none
/-- no stores from the right -/
def swNone (tg ev : Expr) : Bool := match tupOf tg, asTup ev with
  | some ts, some vs => !(ts.length == 2 || ts.length == 3) || vs.length != ts.length || (!ts.all isNm) || vs.all (foldedForSure 8)
  | _, _ => true
theorem filterMap_lt {α β : Type} {f : α → Option β} : ∀ {l : List α}, (∃ x ∈ l, f x = none) → (l.filterMap f).length ≠ l.length
  | [], h => by obtain ⟨x, h, _⟩ := h; cases h
  | a :: l, h => by
    rw [List.filterMap_cons]
    have h1 := List.length_filterMap_le f l
    split
    · simp only [List.length_cons]; omega
    · rename_i b hb
      obtain ⟨x, hx, e⟩ := h
      rcases List.mem_cons.mp hx with z | z
      · subst z; rw [hb] at e; cases e
      · have := filterMap_lt (f := f) (l := l) ⟨x, z, e⟩
        simp only [List.length_cons]; omega
theorem swNone_ok {tg ev : Expr} {env : PySem.Env} (h : swNone tg ev = true) : swappedStores [tg] ev env = pure none := by
  have key : ∀ ts vs, tupOf tg = some ts → asTup ev = some vs → swappedStores [tg] ev env = pure none := by
    intro ts vs h1 h2
    obtain ⟨k, p, rfl⟩ := asTup_eq h2
    unfold swNone at h
    rw [h1, h2] at h
    simp only [Bool.or_eq_true] at h
    have e : swappedStores [tg] (.Tuple vs k p) env = (do
      if !(ts.length == 2 || ts.length == 3) || vs.length != ts.length || env.blockKind != .function then return none
      if vs.any fun | .Starred .. => true | _ => false then return none
      let line := (ts.head?.map (·.pos.line)).getD 0
      let names := ts.filterMap fun
        | .Name id pos => if env.kindOf id == some .local && pos.line == line then some id else none
        | _ => none
      if names.length != ts.length || names.eraseDups.length != names.length then return none
      if vs.all (foldedForSure 8) then return none
      if vs.all (constantsAlone 8) then unsupported "assign.tuple-of-constant-expressions:order-of-the-stores"
      return some names) := by
      unfold swappedStores
      cases tg <;> simp [tupOf] at h1 <;> subst h1 <;> rfl
    rw [e]
    rcases h with (h | h) | h
    · rw [if_pos (by simp only [Bool.or_eq_true]; exact .inl h)]
    · split
      · rfl
      · split
        · rfl
        · rw [if_pos ?_]
          simp only [Bool.or_eq_true]
          refine .inl ?_
          rw [bne_iff_ne]
          refine filterMap_lt ?_
          simp only [Bool.not_eq_true', List.all_eq_false] at h
          obtain ⟨x, hx, hn⟩ := h
          refine ⟨x, hx, ?_⟩
          cases x <;> first | rfl | (simp [isNm] at hn)
    · split
      · rfl
      · split
        · rfl
        · try rw [if_pos h]
          dsimp only
          split <;> rfl
  cases h1 : tupOf tg with
  | none => unfold swappedStores; cases tg <;> first | rfl | (simp [tupOf] at h1)
  | some ts =>
    cases h2 : asTup ev with
    | none => unfold swappedStores; cases tg <;> cases ev <;> first | rfl | (simp [tupOf] at h1; done) | (simp [asTup] at h2; done)
    | some vs => exact key ts vs h1 h2
/-- the store of a list made at once -/
def compOk (sc : Scope) (tg ev : Expr) : Bool := match ev with
  | .ListComp _ _ scope pos => (match tg with
    | .Name y py => (sc.names.lookup y == some .local) && (py.line == pos.line) && !(scope.names.any fun (n, k) => n == y && (k == .local || k == .cell))
    | _ => true)
  | _ => !isComp ev
theorem noComp {tg ev : Expr} {l : Nat} {env : PySem.Env} (h : isComp ev = false) : swapsWithSole [tg] ev l env = pure false := by
  show swapsWith ev (some tg) l env = _
  unfold swapsWith
  cases ev <;> first | rfl | (simp [isComp] at h)
theorem noName {tg ev : Expr} {l : Nat} {env : PySem.Env} (h : isNm tg = false) : swapsWithSole [tg] ev l env = pure false := by
  show swapsWith ev (some tg) l env = _
  unfold swapsWith
  cases ev <;> first | rfl | (cases tg <;> first | rfl | (simp [isNm] at h))
theorem noComp0 {ev : Expr} {l : Nat} {env : PySem.Env} (h : isComp ev = false) : swapsWith ev none l env = pure false := by
  unfold swapsWith
  cases ev <;> first | rfl | (simp [isComp] at h)
section
variable (g : Names)
def locB (sc : Scope) (x : Str) : Bool := match sc.names.lookup x with
  | some .local => true | some .cell => true | _ => false
def nmL (sc : Scope) (i : Nat) (x : Str) : Bool := decide (g.N[i]? = some x) && locB sc x
def nmsL (sc : Scope) : List Nat → List Expr → Bool
  | [], l => l.isEmpty
  | i :: is, e :: es => (match asName e with | some x => nmL g sc i x | none => false) && nmsL sc is es
  | _ :: _, [] => false
def chkT (sc : Scope) : CT → Expr → Bool
  | .nm i, e => match asName e with
    | some x => nmL g sc i x
    | none => false
  | .tup is, e => match asTup e with
    | some l => nmsL g sc is l
    | none => false
  | .sub o i, e => match asSub e with
    | some (eo, ei) => chkE g sc o eo && chkE g sc i ei && !isSl ei
    | none => false
  | .subnm o i n, e => match asTup e with
    | some [e1, e2] => (match asSub e1 with
      | some (eo, ei) => chkE g sc o eo && chkE g sc i ei && !isSl ei
      | none => false) && (match asName e2 with | some x => nmL g sc n x | none => false)
    | _ => false
  | .subsub o i o2 i2, e => match asTup e with
    | some [e1, e2] => (match asSub e1 with
      | some (eo, ei) => chkE g sc o eo && chkE g sc i ei && !isSl ei
      | none => false) && (match asSub e2 with
      | some (eo, ei) => chkE g sc o2 eo && chkE g sc i2 ei && !isSl ei
      | none => false)
    | _ => false
def lcB (sc : Scope) (x : Str) : Bool := sc.names.lookup x == some .local
mutual
def chkS (sc : Scope) : CS → Stmt → Bool
  | .asg t e, st => match asAsg st with
    | some (tg, ev, _) => chkE g sc e ev && chkT g sc t tg && swNone tg ev && compOk sc tg ev
    | none => false
  | .par i j a b, st => match asAsg st with
    | some (tg, ev, _) => (match asTup tg, asTup ev with
      | some [e1, e2], some [e3, e4] => (match asName e1, asName e2 with
        | some x, some y => nmL g sc i x && nmL g sc j y && lcB sc x && lcB sc y && decide (i ≠ j) && !(x == y) && (e1.pos.line == e2.pos.line) && chkE g sc a e3 && chkE g sc b e4 && !([e3, e4].all (foldedForSure 8)) && !([e3, e4].all (constantsAlone 8))
        | _, _ => false)
      | _, _ => false)
    | none => false
  | .expr e, st => match asExprS st with
    | some (ev, _) => chkE g sc e ev && !isComp ev
    | none => false
  | .ret e, st => match asRet st with
    | some ev => chkE g sc e ev
    | none => false
  | .retn, st => isRetN st
  | .iff c a b, st => match asIfS st with
    | some (ec, sa, sb) => chkE g sc c ec && chkSs sc a sa && chkSs sc b sb
    | none => false
  | .fo t it b, st => match asFor st with
    | some (tg, ei, sb) => chkT g sc t tg && chkI g sc it ei && chkSs sc b sb
    | none => false
  | .wh c b, st => match asWh st with
    | some (ec, sb) => chkE g sc c ec && chkSs sc b sb
    | none => false
  | .pas, st => isPass st
  | .bad, _ => true
def chkSs (sc : Scope) : CSs → List Stmt → Bool
  | .nil, l => l.isEmpty
  | .cons a as, l => match l with
    | e :: es => chkS sc a e && chkSs sc as es
    | [] => false
end
end
/-! ### the weakest readings -/
def wG (X : Cx) (tg : Expr) : TG := fun v σ H Q => ∀ (pins : List (Addr × Obj)) (s : Shared) (u : Value), Inv X pins σ H s → RelV v u → wpAny (model X.prog X.w) X.A (assign tg X.env u) (fun _ s' => ∃ σ' H', Inv X pins σ' H' s' ∧ Q σ' H') X.xe s
def wSt (X : Cx) (st : Stmt) : TS := fun D σ H => ∀ (pins : List (Addr × Obj)) (s : Shared), Inv X pins σ H s → wpAny (model X.prog X.w) X.A (exec st X.env) (SP X pins D) X.xe s
def wSs (X : Cx) (st : List Stmt) : TS := fun D σ H => ∀ (pins : List (Addr × Obj)) (s : Shared), Inv X pins σ H s → wpAny (model X.prog X.w) X.A (execs st X.env) (SP X pins D) X.xe s
theorem pgW {X : Cx} {tg : Expr} : PG X tg (wG X tg) := ⟨fun pins s σ H v u Q I r h => h pins s u I r⟩
theorem PG.w {X : Cx} {tg : Expr} {t : TG} (p : PG X tg t) {v : V} {σ : L2.St} {H : Hp} {Q : L2.St → Hp → Prop} (h : t v σ H Q) : wG X tg v σ H Q := fun pins s u I r => p.run pins s σ H v u Q I r h
theorem psW {X : Cx} {st : Stmt} : PS X st (wSt X st) := ⟨fun pins s σ H D I h => h pins s I⟩
theorem PS.w {X : Cx} {st : Stmt} {t : TS} (p : PS X st t) {D : Ends} {σ : L2.St} {H : Hp} (h : t D σ H) : wSt X st D σ H := fun pins s I => p.run pins s σ H D I h
theorem pssW {X : Cx} {st : List Stmt} : PSs X st (wSs X st) := ⟨fun pins s σ H D I h => h pins s I⟩
theorem PSs.w {X : Cx} {st : List Stmt} {t : TS} (p : PSs X st t) {D : Ends} {σ : L2.St} {H : Hp} (h : t D σ H) : wSs X st D σ H := fun pins s I => p.run pins s σ H D I h
/-- a def's body -/
structure SW (g : Names) (F : Fns) (X : Cx) : Prop where
  wd : Wd g F X
  fn : ∀ x, X.fn x = true
  kind : X.env.scope.kind = .function
  po : PassesOwn (model X.prog X.w) X.A X.env X.xe
def SG (F : Fns) (X : Cx) (t : CT) (tg : Expr) : Prop := ∀ (s : Env) (σ : L2.St) (r : Ren) (H : Hp) (h : CH) (x : CV) (v : V) (s' : Env) (h' : CH) (Q : L2.St → Hp → Prop), RE X r H s σ → RH X.prog X.w X.K r h H → RV X.K r H x v → asgC F t x s h = some (s', h') →
  (∀ σ' r' H', Step r H r' H' → RE X r' H' s' σ' → RH X.prog X.w X.K r' h' H' → Q σ' H') → wG X tg v σ H Q
def PostS (X : Cx) (r : Ren) (H : Hp) (fl : Fl) (s' : Env) (h' : CH) (D : Ends) : Prop := match fl with
  | .nx => ∀ σ' r' H', Step r H r' H' → RE X r' H' s' σ' → RH X.prog X.w X.K r' h' H' → D.nx σ' H'
  | .rt c => PostE X r H c h' D.rt
def SS (F : Fns) (W : Nat) (X : Cx) (c : CS) (st : Stmt) : Prop := ∀ (s : Env) (σ : L2.St) (r : Ren) (H : Hp) (h : CH) (fl : Fl) (s' : Env) (h' : CH) (D : Ends), RE X r H s σ → RH X.prog X.w X.K r h H → execC F W c s h = some (fl, s', h') → PostS X r H fl s' h' D → wSt X st D σ H
def SSs (F : Fns) (W : Nat) (X : Cx) (c : CSs) (st : List Stmt) : Prop := ∀ (s : Env) (σ : L2.St) (r : Ren) (H : Hp) (h : CH) (fl : Fl) (s' : Env) (h' : CH) (D : Ends), RE X r H s σ → RH X.prog X.w X.K r h H → execCs F W c s h = some (fl, s', h') → PostS X r H fl s' h' D → wSs X st D σ H
section
variable {g : Names} {F : Fns}
theorem loc_of {sc : Scope} {x : Str} (h : locB sc x = true) : Loc sc x := by
  unfold locB at h
  split at h
  · exact .inl (by assumption)
  · exact .inr (by assumption)
  · cases h
theorem nmL_of {X : Cx} {i : Nat} {x : Str} (W : SW g F X) (h : nmL g X.env.scope i x = true) : X.N[i]? = some x ∧ Loc X.env.scope x := by
  unfold nmL at h
  simp only [Bool.and_eq_true, decide_eq_true_eq] at h
  exact ⟨by rw [W.wd.nN]; exact h.1, loc_of h.2⟩
theorem pg_nm {X : Cx} {i : Nat} {x : Str} {p : Pos} (W : SW g F X) (h : nmL g X.env.scope i x = true) : PG X (.Name x p) (gName i) := by
  obtain ⟨h1, h2⟩ := nmL_of W h
  exact pg_name W.wd.nd h1 h2 (.inl (W.fn x))
theorem sg_nm {X : Cx} {i : Nat} {x : Str} {p : Pos} (W : SW g F X) (h : nmL g X.env.scope i x = true) : SG F X (.nm i) (.Name x p) := by
  intro s σ r H h0 y v s' h' Q re q rv ev post
  simp only [asgC, Option.some.injEq, Prod.mk.injEq] at ev
  obtain ⟨rfl, rfl⟩ := ev
  exact PG.w (pg_nm W h) (post _ r H .refl (re.set rv) q)
theorem sg_sub {X : Cx} {o i : CE} {eo ei : Expr} {p : Pos} (W : SW g F X) (so : SE F X o eo) (si : SE F X i ei) (hs : isSl ei = false) : SG F X (.sub o i) (.Subscript eo ei p) := by
  intro s σ r H h y v s' h' Q re q rv ev post
  simp only [asgC, Option.bind_eq_some_iff, Option.map_eq_some_iff] at ev
  obtain ⟨⟨x, h1⟩, e1, ⟨z, h2⟩, e2, h3, e3, e4⟩ := ev
  cases e4
  refine PG.w (pg_sub peW peW setW (by intro v; cases ei <;> first | rfl | (simp [isSl, asSlc] at hs))) ?_
  refine so s σ r H h x h1 _ re q e1 fun v1 r1 H1 st1 q1 rv1 => ?_
  refine si s σ r1 H1 h1 z h2 _ (re.step q st1) q1 e2 fun v2 r2 H2 st2 q2 rv2 => ?_
  have st12 := st1.trans st2
  refine set_ok (by have := W.wd.un; omega) q2 (rv1.step q1 st2) rv2 (rv.step q st12) e3 fun H3 st3 q3 => ?_
  exact post σ r2 H3 (st12.trans st3) (re.step q (st12.trans st3)) q3
def gAll : List Nat → TGs
  | [] => gNil
  | i :: is => gCons (gName i) (gAll is)
theorem pgs_all {X : Cx} (W : SW g F X) : ∀ {is : List Nat} {l : List Expr}, nmsL g X.env.scope is l = true → PGs X l (gAll is) ∧ (assignEach l X.env).length = is.length ∧ (assignEach l X.env).findIdx? (·.1) = none
  | [], l, h => by
    simp only [nmsL, List.isEmpty_iff] at h
    subst h
    exact ⟨pgs_nil, rfl, rfl⟩
  | i :: is, [], h => by simp [nmsL] at h
  | i :: is, e :: es, h => by
    simp only [nmsL, Bool.and_eq_true] at h
    obtain ⟨h1, h2⟩ := h
    split at h1
    · rename_i x hx
      obtain ⟨p, rfl⟩ := asName_eq hx
      obtain ⟨a, b, c⟩ := pgs_all W h2
      refine ⟨pgs_cons (pg_nm W h1) a rfl, by simp [assignEach, b], ?_⟩
      simp only [assignEach, List.findIdx?_cons]
      simp [c]
    · cases h1
theorem gAll_ok {X : Cx} {r : Ren} {H : Hp} {Q : L2.St → Hp → Prop} : ∀ {is : List Nat} {xs : List CV} {vs : List V} {s s' : Env} {σ : L2.St}, RE X r H s σ → RVs X.K r H xs vs → setN s is xs = some s' → (∀ σ', RE X r H s' σ' → Q σ' H) → gAll is vs σ H Q
  | [], [], _, s, s', σ, re, .nil, e, post => by
    simp only [setN, Option.some.injEq] at e
    subst e
    exact ⟨rfl, post σ re⟩
  | i :: is, x :: xs, _, s, s', σ, re, .cons rv t, e, post => ⟨_, _, rfl, gAll_ok (re.set rv) t e post⟩
  | [], _ :: _, _, _, _, _, _, _, e, _ => by simp [setN] at e
  | _ :: _, [], _, _, _, _, _, _, e, _ => by simp [setN] at e
theorem setN_len : ∀ {is : List Nat} {xs : List CV} {s s' : Env}, setN s is xs = some s' → xs.length = is.length
  | [], [], _, _, _ => rfl
  | i :: is, x :: xs, s, s', e => by simp only [List.length_cons]; rw [setN_len (is := is) e]
  | [], _ :: _, _, _, e => by simp [setN] at e
  | _ :: _, [], _, _, e => by simp [setN] at e
theorem sg_tup {X : Cx} {is : List Nat} {l : List Expr} {k : Nat} {p : Pos} (W : SW g F X) (h : nmsL g X.env.scope is l = true) : SG F X (.tup is) (.Tuple l k p) := by
  intro s σ r H h0 y v s' h' Q re q rv ev post
  obtain ⟨a, b, c⟩ := pgs_all W h
  cases rv with
  | tup t us =>
    simp only [asgC, Option.map_eq_some_iff] at ev
    obtain ⟨s2, e1, e2⟩ := ev
    cases e2
    refine PG.w (pg_tup W.wd.calm a b c) ⟨_, _, rfl, SqT.of t, by rw [← us.length]; exact setN_len e1, ?_⟩
    exact gAll_ok re us e1 fun σ' re' => post σ' r H .refl re' q
  | @ref n ad z =>
    simp only [asgC, Option.bind_eq_some_iff, Option.map_eq_some_iff] at ev
    obtain ⟨xs, e0, s2, e1, e2⟩ := ev
    cases e2
    obtain ⟨vs, g, us, _⟩ := rdl_at q e0 z
    refine PG.w (pg_unl W.wd.calm a b c) ⟨_, vs, rfl, g, by rw [← us.length]; exact setN_len e1, ?_⟩
    exact gAll_ok re us e1 fun σ' re' => post σ' r H .refl re' q
  | _ => simp [asgC] at ev
theorem sg_subnm {X : Cx} {o i : CE} {n : Nat} {eo ei : Expr} {x : Str} {p2 p3 p : Pos} {k : Nat} (W : SW g F X) (so : SE F X o eo) (si : SE F X i ei) (hs : isSl ei = false) (hn : nmL g X.env.scope n x = true) : SG F X (.subnm o i n) (.Tuple [.Subscript eo ei p2, .Name x p3] k p) := by
  intro s σ r H h y v s' h' Q re q rv ev post
  simp only [asgC] at ev
  split at ev
  · rename_i c1 c2
    cases rv with | tup t us =>
    obtain ⟨w1, w2, rfl, rw1, rw2⟩ := us.two
    refine PG.w (pg_tup W.wd.calm (pgs_cons (t := wG X (.Subscript eo ei p2)) pgW (pgs_cons (pg_nm W hn) pgs_nil rfl) rfl) rfl rfl) ⟨_, [w1, w2], rfl, SqT.of t, rfl, w1, [w2], rfl, ?_⟩
    simp only [Option.bind_eq_some_iff, Option.map_eq_some_iff] at ev
    obtain ⟨⟨z1, h1⟩, e1, ⟨z2, h2⟩, e2, h3, e3, e4⟩ := ev
    cases e4
    refine sg_sub W so si hs s σ r H h c1 w1 s h' _ re q rw1 ?_ fun σ' r' H' st re' q' => ?_
    · simp only [asgC, Option.bind_eq_some_iff, Option.map_eq_some_iff]
      exact ⟨_, e1, _, e2, _, e3, rfl⟩
    · exact ⟨w2, [], rfl, rfl, post _ r' H' st (re'.set (rw2.step q st)) q'⟩
  · cases ev
theorem sg_subsub {X : Cx} {o i o2 i2 : CE} {eo ei eo2 ei2 : Expr} {p2 p3 p : Pos} {k : Nat} (W : SW g F X) (so : SE F X o eo) (si : SE F X i ei) (hs : isSl ei = false) (so2 : SE F X o2 eo2) (si2 : SE F X i2 ei2) (hs2 : isSl ei2 = false) :
    SG F X (.subsub o i o2 i2) (.Tuple [.Subscript eo ei p2, .Subscript eo2 ei2 p3] k p) := by
  intro s σ r H h y v s' h' Q re q rv ev post
  simp only [asgC] at ev
  split at ev
  · rename_i c1 c2
    cases rv with | tup t us =>
    obtain ⟨w1, w2, rfl, rw1, rw2⟩ := us.two
    refine PG.w (pg_tup W.wd.calm (pgs_cons (t := wG X (.Subscript eo ei p2)) pgW (pgs_cons (t := wG X (.Subscript eo2 ei2 p3)) pgW pgs_nil rfl) rfl) rfl rfl) ⟨_, [w1, w2], rfl, SqT.of t, rfl, w1, [w2], rfl, ?_⟩
    simp only [Option.bind_eq_some_iff, Option.map_eq_some_iff] at ev
    obtain ⟨⟨z1, h1⟩, e1, ⟨z2, h2⟩, e2, h3, e3, ⟨z3, h4⟩, e4, ⟨z5, h5⟩, e5, h6, e6, e7⟩ := ev
    cases e7
    refine sg_sub W so si hs s σ r H h c1 w1 s h3 _ re q rw1 ?_ fun σ' r' H' st re' q' => ?_
    · simp only [asgC, Option.bind_eq_some_iff, Option.map_eq_some_iff]
      exact ⟨_, e1, _, e2, _, e3, rfl⟩
    · refine ⟨w2, [], rfl, ?_⟩
      refine sg_sub W so2 si2 hs2 s σ' r' H' h3 c2 w2 s h' _ re' q' (rw2.step q st) ?_ fun σ2 r2 H2 st2 re2 q2 => ⟨rfl, post σ2 r2 H2 (st.trans st2) re2 q2⟩
      simp only [asgC, Option.bind_eq_some_iff, Option.map_eq_some_iff]
      exact ⟨_, e4, _, e5, _, e6, rfl⟩
  · cases ev
theorem sgT {X : Cx} (W : SW g F X) : ∀ {t : CT} {tg : Expr}, chkT g X.env.scope t tg = true → SG F X t tg
  | .nm i, tg, hc => by
    simp only [chkT] at hc
    split at hc
    · rename_i x hx
      obtain ⟨p, rfl⟩ := asName_eq hx
      exact sg_nm W hc
    · cases hc
  | .tup is, tg, hc => by
    simp only [chkT] at hc
    split at hc
    · rename_i x hx
      obtain ⟨k, p, rfl⟩ := asTup_eq hx
      exact sg_tup W hc
    · cases hc
  | .sub o i, tg, hc => by
    simp only [chkT] at hc
    split at hc
    · rename_i x hx
      obtain ⟨p, rfl⟩ := asSub_eq hx
      simp only [Bool.and_eq_true, Bool.not_eq_true'] at hc
      exact sg_sub W (seE o W.wd hc.1.1) (seE i W.wd hc.1.2) hc.2
    · cases hc
  | .subnm o i n, tg, hc => by
    simp only [chkT] at hc
    split at hc
    · rename_i e1 e2 hx
      obtain ⟨k, p, rfl⟩ := asTup_eq hx
      rw [Bool.and_eq_true] at hc
      obtain ⟨h1, h2⟩ := hc
      split at h1
      · rename_i y hy
        obtain ⟨p2, rfl⟩ := asSub_eq hy
        split at h2
        · rename_i z hz
          obtain ⟨p3, rfl⟩ := asName_eq hz
          simp only [Bool.and_eq_true, Bool.not_eq_true'] at h1
          exact sg_subnm W (seE o W.wd h1.1.1) (seE i W.wd h1.1.2) h1.2 h2
        · cases h2
      · cases h1
    · cases hc
  | .subsub o i o2 i2, tg, hc => by
    simp only [chkT] at hc
    split at hc
    · rename_i e1 e2 hx
      obtain ⟨k, p, rfl⟩ := asTup_eq hx
      rw [Bool.and_eq_true] at hc
      obtain ⟨h1, h2⟩ := hc
      split at h1
      · rename_i y hy
        obtain ⟨p2, rfl⟩ := asSub_eq hy
        split at h2
        · rename_i z hz
          obtain ⟨p3, rfl⟩ := asSub_eq hz
          simp only [Bool.and_eq_true, Bool.not_eq_true'] at h1 h2
          exact sg_subsub W (seE o W.wd h1.1.1) (seE i W.wd h1.1.2) h1.2 (seE o2 W.wd h2.1.1) (seE i2 W.wd h2.1.2) h2.2
        · cases h2
      · cases h1
    · cases hc
end
end TH

set_option maxHeartbeats 8000000
/-! Statements. -/
namespace TH
open PySem PySem.Spec PyProof.Rows L2
section
variable {g : Names} {F : Fns} {W : Nat}
theorem ss_asg {X : Cx} {t : CT} {e : CE} {tg ev : Expr} {p : Pos} (se : SE F X e ev) (sg : SG F X t tg) (h1 : swNone tg ev = true) (h2 : ∀ l, swapsWithSole [tg] ev l X.env = pure false) (h3 : (assignEach [tg] X.env).map (·.2) = [assign tg X.env]) : SS F W X (.asg t e) (.Assign [tg] ev p) := by
  intro s σ r H h fl s' h' D re q eq post
  simp only [execC, Option.bind_eq_some_iff, Option.map_eq_some_iff] at eq
  obtain ⟨⟨x, h1'⟩, e1, ⟨s2, h2'⟩, e2, e3⟩ := eq
  cases e3
  refine PS.w (ps_asg peW pgW (h2 _) (swNone_ok h1) h3) ?_
  refine se s σ r H h x h1' _ re q e1 fun v r1 H1 st1 q1 rv => ?_
  exact sg s σ r1 H1 h1' x v _ _ _ (re.step q st1) q1 rv e2 fun σ' r' H' st re' q' => post σ' r' H' (st1.trans st) re' q'
theorem lc_ok {sc : Scope} {y : Str} (h : (sc.names.lookup y == some .local) = true) : sc.names.lookup y = some .local := by
  cases e : sc.names.lookup y with
  | none => rw [e] at h; cases h
  | some k => cases k <;> first | rfl | (rw [e] at h; cases h)
theorem ss_lc {X : Cx} {j : Nat} {elt cond : CE} {it : CI} {i : Nat} {ee ei : Expr} {ifs : List Expr} {x y : Str} {scope : Scope} {px py pos p : Pos} (w : SW g F X) (hb : blkB g X.env.scope scope i x = true)
    (se : ∀ s0 H0 C cl fp, SE F (fX X s0 H0 scope C cl fp) elt ee) (hi : (∃ ec, ifs = [ec] ∧ ∀ s0 H0 C cl fp, ST F (fX X s0 H0 scope C cl fp) cond ec) ∨ (ifs = [] ∧ cond = .lit (.bl true)))
    (si : SI F X it ei) (hset : isSet ei = false) (hn : nmL g X.env.scope j y = true) (hl : X.env.scope.names.lookup y = some .local) (hln : (py.line == pos.line) = true) (ha : (scope.names.any fun (n, k) => n == y && (k == .local || k == .cell)) = false) :
    SS F W X (.asg (.nm j) (.comp elt i it cond)) (.Assign [.Name y py] (.ListComp ee [⟨.Name x px, ei, ifs, 0⟩] scope pos) p) := by
  intro s σ r H h fl s' h' D re q eq post
  simp only [execC, asgC, Option.bind_eq_some_iff, Option.map_eq_some_iff] at eq
  obtain ⟨⟨v, h1'⟩, e1, ⟨s2, h2'⟩, e2, e3⟩ := eq
  cases e2
  cases e3
  obtain ⟨n1, n2⟩ := nmL_of w hn
  have hb' := hb
  unfold blkB at hb'
  simp only [Bool.and_eq_true, decide_eq_true_eq] at hb'
  obtain ⟨⟨b1, b2⟩, b3⟩ := hb'
  obtain ⟨l1, l2⟩ := st_loc b3
  have ps := ps_setLc (X := X) (spos := p) (own := [(x, i)]) w.wd.calm w.wd.nd n1 hl (sw_true (gs := [⟨.Name x px, ei, ifs, 0⟩]) (elt := ee) w.kind hl hln ha) (piW (X := X) (tg := .Name x px) (e := ei)) (blkOk_by (by rw [w.wd.nN]; exact b2))
    (fun s0 H0 C cl fp => pg_name w.wd.nd (by show X.N[i]? = some x; rw [w.wd.nN]; exact b1) l1 l2) (tt := uIf X scope ifs)
    (fun s0 H0 C cl fp => by
      rcases hi with ⟨ec, rfl, _⟩ | ⟨rfl, _⟩
      · exact pts_one ⟨fun pins s σ H Q I h => h s0 H0 C cl fp pins s I⟩
      · exact pts_nil) (te := uE X scope ee)
    (fun s0 H0 C cl fp => ⟨fun pins s σ H Q I h => h s0 H0 C cl fp pins s I⟩) (fold_of hset)
  refine PS.w ps ?_
  refine comp_rd w.wd hb se hi si hset s σ r H h v h1' _ re q e1 fun v2 r2 H2 st2 q2 rv2 => ?_
  exact post _ r2 H2 st2 ((re.step q st2).set rv2) q2
theorem ss_lcD {X : Cx} {j : Nat} {elt cond : CE} {i d : Nat} {vl : Bool} {ee ei : Expr} {ifs : List Expr} {x y : Str} {scope : Scope} {px py pos p : Pos} (w : SW g F X) (hb : blkB g X.env.scope scope i x = true)
    (se : ∀ s0 H0 C cl fp, SE F (fX X s0 H0 scope C cl fp) elt ee) (hi : (∃ ec, ifs = [ec] ∧ ∀ s0 H0 C cl fp, ST F (fX X s0 H0 scope C cl fp) cond ec) ∨ (ifs = [] ∧ cond = .lit (.bl true)))
    (hv : (vl = false ∧ ∃ y py, ei = .Name y py ∧ nmOk g X.env.scope d y = true) ∨ (vl = true ∧ ∃ y py ap p, ei = .Call (.Attribute (.Name y py) "values" ap) [] [] p ∧ nmOk g X.env.scope d y = true ∧ (ap.endLine == p.line) = true))
    (hn : nmL g X.env.scope j y = true) (hl : X.env.scope.names.lookup y = some .local) (hln : (py.line == pos.line) = true) (ha : (scope.names.any fun (n, k) => n == y && (k == .local || k == .cell)) = false) :
    SS F W X (.asg (.nm j) (.compD elt i vl d cond)) (.Assign [.Name y py] (.ListComp ee [⟨.Name x px, ei, ifs, 0⟩] scope pos) p) := by
  intro s σ r H h fl s' h' D re q eq post
  simp only [execC, asgC, Option.bind_eq_some_iff, Option.map_eq_some_iff] at eq
  obtain ⟨⟨v, h1'⟩, e1, ⟨s2, h2'⟩, e2, e3⟩ := eq
  cases e2
  cases e3
  obtain ⟨n1, n2⟩ := nmL_of w hn
  have hb' := hb
  unfold blkB at hb'
  simp only [Bool.and_eq_true, decide_eq_true_eq] at hb'
  obtain ⟨⟨b1, b2⟩, b3⟩ := hb'
  obtain ⟨l1, l2⟩ := st_loc b3
  refine compD_core (px := px) (pos := pos) (Q := fun v2 H2 => D.nx (σ.set j (some v2)) H2) w.wd hb se hi hv re q e1 (fun v2 r2 H2 st2 q2 rv2 => post _ r2 H2 st2 ((re.step q st2).set rv2) q2) fun wi pi hset hw => ?_
  have ps := ps_setLc (X := X) (spos := p) (own := [(x, i)]) w.wd.calm w.wd.nd n1 hl (sw_true (gs := [⟨.Name x px, ei, ifs, 0⟩]) (elt := ee) w.kind hl hln ha) pi (blkOk_by (by rw [w.wd.nN]; exact b2))
    (fun s0 H0 C cl fp => pg_name w.wd.nd (by show X.N[i]? = some x; rw [w.wd.nN]; exact b1) l1 l2) (tt := uIf X scope ifs)
    (fun s0 H0 C cl fp => by
      rcases hi with ⟨ec, rfl, _⟩ | ⟨rfl, _⟩
      · exact pts_one ⟨fun pins s σ H Q I h => h s0 H0 C cl fp pins s I⟩
      · exact pts_nil) (te := uE X scope ee)
    (fun s0 H0 C cl fp => ⟨fun pins s σ H Q I h => h s0 H0 C cl fp pins s I⟩) (fold_of hset)
  obtain ⟨a, u, ga, mu, hw⟩ := hw
  exact PS.w (ps_lock ps) ⟨a, u, ga, mu, fun od => hw od⟩
theorem ss_par {X : Cx} {i j : Nat} {a b : CE} {ea eb : Expr} {x y : Str} {px py pt pt2 p : Pos} {kt k2 : Nat} (w : SW g F X) (sa : SE F X a ea) (sb : SE F X b eb) (ha : star ea = false) (hb : star eb = false) (hx : nmL g X.env.scope i x = true) (hy : nmL g X.env.scope j y = true) (lx : lcB X.env.scope x = true) (ly : lcB X.env.scope y = true)
    (hij : i ≠ j) (hxy : (x == y) = false) (hln : (px.line == py.line) = true) (hf : [ea, eb].all (foldedForSure 8) = false) (hk : [ea, eb].all (constantsAlone 8) = false) :
    SS F W X (.par i j a b) (.Assign [.Tuple [.Name x px, .Name y py] kt pt] (.Tuple [ea, eb] k2 pt2) p) := by
  intro s σ r H h fl s' h' D re q eq post
  simp only [execC, Option.bind_eq_some_iff, Option.map_eq_some_iff] at eq
  obtain ⟨⟨v, h1'⟩, e1, ⟨u, h2'⟩, e2, e3⟩ := eq
  cases e3
  obtain ⟨n1, n2⟩ := nmL_of w hx
  obtain ⟨n3, n4⟩ := nmL_of w hy
  have hsw : swappedStores [.Tuple [.Name x px, .Name y py] kt pt] (.Tuple [ea, eb] k2 pt2) X.env = pure (some [x, y]) := by
    have k1 : X.env.kindOf x = some .local := lc_ok lx
    have ky2 : X.env.kindOf y = some .local := lc_ok ly
    have hbk : X.env.blockKind = .function := by unfold Env.blockKind; rw [w.kind]; rfl
    have hln2 : (py.line == px.line) = true := by
      rw [beq_iff_eq] at hln ⊢; exact hln.symm
    have hyx : (y == x) = false := by
      rw [beq_eq_false_iff_ne] at hxy ⊢; exact fun e => hxy e.symm
    have hst : [ea, eb].any (fun | .Starred .. => true | _ => false) = false := by
      simp only [List.any_cons, List.any_nil, Bool.or_false, Bool.or_eq_false_iff]
      constructor
      · cases ea <;> first | rfl | (simp [star] at ha)
      · cases eb <;> first | rfl | (simp [star] at hb)
    have hfm : [Expr.Name x px, Expr.Name y py].filterMap (fun | .Name id pos => if X.env.kindOf id == some .local && pos.line == px.line then some id else none | _ => none) = [x, y] := by
      have b1 : (X.env.kindOf x == some NameKind.local && px.line == px.line) = true := by rw [k1]; simp
      have b2 : (X.env.kindOf y == some NameKind.local && py.line == px.line) = true := by rw [ky2, hln2]; simp
      rw [List.filterMap_cons]
      simp only [b1, if_true]
      rw [List.filterMap_cons]
      simp only [b2, if_true]
      rfl
    have hed : ([x, y] : List Str).eraseDups = [x, y] := by
      rw [List.eraseDups_cons, List.filter_cons, hyx]
      simp [List.eraseDups_cons]
    have e : swappedStores [.Tuple [.Name x px, .Name y py] kt pt] (.Tuple [ea, eb] k2 pt2) X.env = (do
      if X.env.blockKind != .function then return none
      if [ea, eb].any fun | .Starred .. => true | _ => false then return none
      let names := [Expr.Name x px, Expr.Name y py].filterMap fun
        | .Name id pos => if X.env.kindOf id == some .local && pos.line == px.line then some id else none
        | _ => none
      if names.length != 2 || names.eraseDups.length != names.length then return none
      if [ea, eb].all (foldedForSure 8) then return none
      if [ea, eb].all (constantsAlone 8) then unsupported "assign.tuple-of-constant-expressions:order-of-the-stores"
      return some names) := rfl
    rw [e, hbk, hfm]
    simp only [hed]
    rw [if_neg (by decide), if_neg (by rw [hst]; decide), if_neg (by simp), if_neg (by rw [hf]; decide), if_neg (by rw [hk]; decide)]
  refine PS.w (ps_par w.wd.calm w.wd.nd n1 n3 hij (lc_ok lx) (lc_ok ly) (pa_cons peW (pa_cons peW pa_nil (star_each hb)) (star_each ha)) hsw) ?_
  refine sa s σ r H h v h1' _ re q e1 fun v1 r1 H1 st1 q1 rv1 => ?_
  refine sb s σ r1 H1 h1' u h2' _ (re.step q st1) q1 e2 fun v2 r2 H2 st2 q2 rv2 => ?_
  exact ⟨v1, v2, rfl, post _ r2 H2 (st1.trans st2) (((re.step q (st1.trans st2)).set (rv1.step q1 st2)).set rv2) q2⟩
theorem PostS.step {X : Cx} {r r1 : Ren} {H H1 : Hp} {fl : Fl} {s' : Env} {h' : CH} {D : Ends} (p : PostS X r H fl s' h' D) (st : Step r H r1 H1) : PostS X r1 H1 fl s' h' D := by
  cases fl with
  | nx => exact fun σ' r' H' st' re q => p σ' r' H' (st.trans st') re q
  | rt c => exact fun v r' H' st' q rv => p v r' H' (st.trans st') q rv
/-- a for's turns -/
theorem for_loop {X : Cx} {t : CT} {tg : Expr} {b : CSs} {sb : List Stmt} {src : Src} {J : It} {r : Ren} {H : Hp} {h : CH} {s s' : Env} {σ : L2.St} {h' : CH} {fl : Fl} {n : Nat} {D : Ends} (sg : SG F X t tg) (hb : SSs F W X b sb) (rj : RJ X r H src J) (q : RH X.prog X.w X.K r h H) (re : RE X r H s σ)
    (e : forGo src (fun x s h => (asgC F t x s h).bind fun q => execCs F W b q.1 q.2) n 0 s h = some (fl, s', h')) (post : PostS X r H fl s' h' D) :
    ∃ W' : Nat → Nat → L2.St → Hp → Prop, (∃ m, W' 0 m σ H) ∧ ∀ i m σ H, W' i m σ H → (J.stop i H ∧ D.nx σ H) ∨ (J.go i H ∧ ∃ N : L2.St → Hp → Prop, (∀ σ' H', N σ' H' → ∃ m', m' < m ∧ W' (i + 1) m' σ' H') ∧ ∀ x H', J.yld i H x H' → wG X tg x σ H' fun σ2 H2 => wSs X sb { D with nx := N, ct := N, bk := D.nx } σ2 H2) := by
  refine ⟨fun j k σ3 H3 => ∃ r3 h3 s3, Step r H r3 H3 ∧ RH X.prog X.w X.K r3 h3 H3 ∧ RE X r3 H3 s3 σ3 ∧ forGo src (fun x s h => (asgC F t x s h).bind fun q => execCs F W b q.1 q.2) k j s3 h3 = some (fl, s', h'), ⟨n, r, h, s, .refl, q, re, e⟩, ?_⟩
  rintro j k σ3 H3 ⟨r3, h3, s3, st, q3, re3, e3⟩
  have rjj := rj j r3 H3 h3 st q3
  cases k with
  | zero =>
    unfold forGo at e3
    split at e3
    · rename_i hi
      cases e3
      rw [hi] at rjj
      exact .inl ⟨rjj, post σ3 r3 H3 st re3 q3⟩
    · cases e3
  | succ k =>
    unfold forGo at e3
    split at e3
    · rename_i x hi
      rw [hi] at rjj
      obtain ⟨go, yl⟩ := rjj
      refine .inr ⟨go, fun σ4 H4 => ∃ r3 h3 s3, Step r H r3 H4 ∧ RH X.prog X.w X.K r3 h3 H4 ∧ RE X r3 H4 s3 σ4 ∧ forGo src (fun x s h => (asgC F t x s h).bind fun q => execCs F W b q.1 q.2) k (j + 1) s3 h3 = some (fl, s', h'),
        fun σ4 H4 z => ⟨k, Nat.lt_succ_self _, z⟩, fun v H4 y => ?_⟩
      obtain ⟨rfl, rv⟩ := yl v H4 y
      cases ea : asgC F t x s3 h3 with
      | none => rw [ea] at e3; cases e3
      | some p =>
        obtain ⟨s4, h4⟩ := p
        rw [ea] at e3
        simp only [Option.bind_some] at e3
        refine sg s3 σ3 r3 H4 h3 x v s4 h4 _ re3 q3 rv ea fun σ5 r5 H5 st5 re5 q5 => ?_
        have st05 := st.trans st5
        cases eb : execCs F W b s4 h4 with
        | none => rw [eb] at e3; cases e3
        | some p =>
          obtain ⟨fl2, s6, h6⟩ := p
          rw [eb] at e3
          refine hb s4 σ5 r5 H5 h4 fl2 s6 h6 _ re5 q5 eb ?_
          cases fl2 with
          | nx => exact fun σ7 r7 H7 st7 re7 q7 => ⟨r7, h6, s6, st05.trans st7, q7, re7, e3⟩
          | rt c =>
            simp only [Option.some.injEq, Prod.mk.injEq] at e3
            obtain ⟨rfl, rfl, rfl⟩ := e3
            exact fun v7 r7 H7 st7 q7 rv7 => post v7 r7 H7 (st05.trans st7) q7 rv7
    · cases e3
theorem wh_loop {X : Cx} {c : CE} {ec : Expr} {b : CSs} {sb : List Stmt} {r : Ren} {H : Hp} {h : CH} {s s' : Env} {σ : L2.St} {h' : CH} {fl : Fl} {n : Nat} {D : Ends} (tc : ST F X c ec) (hb : SSs F W X b sb) (q : RH X.prog X.w X.K r h H) (re : RE X r H s σ)
    (e : whGo (testC F c) (execCs F W b) n s h = some (fl, s', h')) (post : PostS X r H fl s' h' D) :
    ∃ W' : Nat → L2.St → Hp → Prop, (∃ m, W' m σ H) ∧ ∀ m σ H, W' m σ H → wT X ec σ H fun k H1 => if k = true then ∃ N : L2.St → Hp → Prop, (∀ σ' H', N σ' H' → ∃ m', m' < m ∧ W' m' σ' H') ∧ wSs X sb { D with nx := N, ct := N, bk := D.nx } σ H1 else D.nx σ H1 := by
  refine ⟨fun k σ3 H3 => ∃ r3 h3 s3, Step r H r3 H3 ∧ RH X.prog X.w X.K r3 h3 H3 ∧ RE X r3 H3 s3 σ3 ∧ whGo (testC F c) (execCs F W b) k s3 h3 = some (fl, s', h'), ⟨n, r, h, s, .refl, q, re, e⟩, ?_⟩
  rintro k σ3 H3 ⟨r3, h3, s3, st, q3, re3, e3⟩
  cases k with
  | zero => cases e3
  | succ k =>
    unfold whGo at e3
    split at e3
    · rename_i h1 ht
      refine tc s3 σ3 r3 H3 h3 true h1 _ re3 q3 ht fun r4 H4 st4 q4 => ?_
      rw [if_pos rfl]
      refine ⟨fun σ4 H4 => ∃ r3 h3 s3, Step r H r3 H4 ∧ RH X.prog X.w X.K r3 h3 H4 ∧ RE X r3 H4 s3 σ4 ∧ whGo (testC F c) (execCs F W b) k s3 h3 = some (fl, s', h'), fun σ' H' z => ⟨k, Nat.lt_succ_self _, z⟩, ?_⟩
      have st04 := st.trans st4
      cases eb : execCs F W b s3 h1 with
      | none => rw [eb] at e3; cases e3
      | some p =>
        obtain ⟨fl2, s6, h6⟩ := p
        rw [eb] at e3
        refine hb s3 σ3 r4 H4 h1 fl2 s6 h6 _ (re3.step q3 st4) q4 eb ?_
        cases fl2 with
        | nx => exact fun σ7 r7 H7 st7 re7 q7 => ⟨r7, h6, s6, st04.trans st7, q7, re7, e3⟩
        | rt c =>
          simp only [Option.some.injEq, Prod.mk.injEq] at e3
          obtain ⟨rfl, rfl, rfl⟩ := e3
          exact fun v7 r7 H7 st7 q7 rv7 => post v7 r7 H7 (st04.trans st7) q7 rv7
    · rename_i h1 ht
      cases e3
      refine tc _ σ3 r3 H3 h3 false _ _ re3 q3 ht fun r4 H4 st4 q4 => ?_
      rw [if_neg Bool.false_ne_true]
      exact post σ3 r4 H4 (st.trans st4) (re3.step q3 st4) q4
    · cases e3
theorem chkT_one {X : Cx} {t : CT} {tg : Expr} (h : chkT g X.env.scope t tg = true) : (assignEach [tg] X.env).map (·.2) = [assign tg X.env] := by
  cases tg with
  | Starred _ _ => cases t <;> simp [chkT, asName, asTup, asSub] at h
  | _ => rfl
theorem isPass_ok {X : Cx} {st : Stmt} (h : isPass st = true) : PS X st tNext := by
  unfold isPass at h
  split at h
  · exact ps_pass
  · exact ps_doc
  · cases h
theorem chkI_set {g : Names} {sc : Scope} {it : CI} {ei : Expr} (h1 : chkI g sc it ei = true) : isSet ei = false := by
  cases it with
  | val a => simp only [chkI, Bool.and_eq_true, Bool.not_eq_true'] at h1; exact h1.2
  | range1 a => cases ei <;> first | rfl | (simp [chkI, asCall] at h1)
  | range2 a b => cases ei <;> first | rfl | (simp [chkI, asCall] at h1)
theorem asg_at {X : Cx} (w : SW g F X) {t : CT} {e : CE} {tg ev : Expr} {p : Pos} (h1 : chkE g X.env.scope e ev = true) (h2 : chkT g X.env.scope t tg = true) (h3 : swNone tg ev = true) (h4 : compOk X.env.scope tg ev = true) : SS F W X (.asg t e) (.Assign [tg] ev p) := by
  have plain : (∀ l, swapsWithSole [tg] ev l X.env = pure false) → SS F W X (.asg t e) (.Assign [tg] ev p) := fun h => ss_asg (seE e w.wd h1) (sgT w h2) h3 h (chkT_one h2)
  cases hc : isComp ev with
  | false => exact plain fun l => noComp hc
  | true =>
    cases hn : isNm tg with
    | false => exact plain fun l => noName hn
    | true =>
      cases ev with
      | ListComp ee gs scope pos =>
        cases tg with
        | Name y py =>
          simp only [compOk, Bool.and_eq_true, Bool.not_eq_true'] at h4
          obtain ⟨⟨k1, k2⟩, k3⟩ := h4
          have kl := lc_ok k1
          have hj : ∃ j, t = .nm j ∧ nmL g X.env.scope j y = true := by
            cases t with
            | nm j => exact ⟨j, rfl, by simpa [chkT, asName] using h2⟩
            | _ => simp [chkT, asTup, asSub] at h2
          obtain ⟨j, rfl, hj⟩ := hj
          cases e with
          | comp elt i it cond =>
            simp only [chkE] at h1
            split at h1
            · rename_i ee' x ei ifs scope' hx
              obtain ⟨q1, q2, eq⟩ := asComp_eq hx
              cases eq
              simp only [Bool.and_eq_true] at h1
              obtain ⟨⟨⟨m1, m2⟩, m3⟩, m4⟩ := h1
              refine ss_lc w m2 (fun s0 H0 C cl fp => seE elt (X := fX X s0 H0 scope C cl fp) w.wd.blk m3) ?_ (seI it w.wd m1) (chkI_set m1) hj kl k2 k3
              split at m4
              · split at m4
                · exact .inr ⟨rfl, rfl⟩
                · cases m4
              · exact .inl ⟨_, rfl, fun s0 H0 C cl fp => seT cond (X := fX X s0 H0 scope C cl fp) w.wd.blk m4⟩
              · cases m4
            · cases h1
          | compD elt i vl d cond =>
            simp only [chkE] at h1
            split at h1
            · rename_i ee' x ei ifs scope' hx
              obtain ⟨q1, q2, eq⟩ := asComp_eq hx
              cases eq
              simp only [Bool.and_eq_true] at h1
              obtain ⟨⟨⟨m1, m2⟩, m3⟩, m4⟩ := h1
              refine ss_lcD w m2 (fun s0 H0 C cl fp => seE elt (X := fX X s0 H0 scope C cl fp) w.wd.blk m3) ?_ ?_ hj kl k2 k3
              · split at m4
                · split at m4
                  · exact .inr ⟨rfl, rfl⟩
                  · cases m4
                · exact .inl ⟨_, rfl, fun s0 H0 C cl fp => seT cond (X := fX X s0 H0 scope C cl fp) w.wd.blk m4⟩
                · cases m4
              · cases vl with
                | false =>
                  dsimp only at m1
                  split at m1
                  · rename_i y hy
                    obtain ⟨p3, rfl⟩ := asName_eq hy
                    exact .inl ⟨rfl, y, p3, rfl, m1⟩
                  · cases m1
                | true =>
                  dsimp only at m1
                  split at m1
                  · rename_i eo nm ap p4 hm
                    split at m1
                    · rename_i y hy
                      obtain ⟨p3, rfl⟩ := asName_eq hy
                      simp only [Bool.and_eq_true, decide_eq_true_eq] at m1
                      obtain ⟨⟨h5, rfl⟩, h6⟩ := m1
                      exact .inr ⟨rfl, y, p3, ap, p4, asMeth_eq hm, h5, h6⟩
                    · cases m1
                  · cases m1
            · cases h1
          | _ => simp [chkE, asName, asConst, asBin, asCmp, asBool, asUn, asIf, asTup, asLst, isDct0, asSub, asCall, asMeth] at h1
        | _ => simp [isNm] at hn
      | SetComp _ _ _ _ => simp [compOk, isComp] at h4
      | DictComp _ _ _ _ _ => simp [compOk, isComp] at h4
      | _ => simp [isComp] at hc
mutual
theorem ssS : ∀ (c : CS) {X : Cx} (w : SW g F X) {st : Stmt}, chkS g X.env.scope c st = true → SS F W X c st
  | .asg t e, X, w, st, hc => by
    simp only [chkS] at hc
    split at hc
    · rename_i tg ev p hx
      cases asAsg_eq hx
      simp only [Bool.and_eq_true] at hc
      obtain ⟨⟨⟨h1, h2⟩, h3⟩, h4⟩ := hc
      exact asg_at w h1 h2 h3 h4
    · cases hc
  | .par i j a b, X, w, st, hc => by
    simp only [chkS] at hc
    split at hc
    · rename_i tg ev p hx
      cases asAsg_eq hx
      split at hc
      · rename_i e1 e2 e3 e4 h1 h2
        obtain ⟨k1, p1, rfl⟩ := asTup_eq h1
        obtain ⟨k2, p2, rfl⟩ := asTup_eq h2
        split at hc
        · rename_i x y h3 h4
          obtain ⟨p3, rfl⟩ := asName_eq h3
          obtain ⟨p4, rfl⟩ := asName_eq h4
          simp only [Bool.and_eq_true, decide_eq_true_eq, Bool.not_eq_true'] at hc
          obtain ⟨⟨⟨⟨⟨⟨⟨⟨⟨⟨m1, m2⟩, m3⟩, m4⟩, m5⟩, m6⟩, m7⟩, m8⟩, m9⟩, m10⟩, m11⟩ := hc
          exact ss_par w (seE a w.wd m8) (seE b w.wd m9) (chk_star m8) (chk_star m9) m1 m2 m3 m4 m5 m6 m7 m10 m11
        · cases hc
      · cases hc
    · cases hc
  | .expr e, X, w, st, hc => by
    simp only [chkS] at hc
    split at hc
    · rename_i ev p hx
      cases asExprS_eq hx
      simp only [Bool.and_eq_true, Bool.not_eq_true'] at hc
      have se := seE e w.wd hc.1
      intro s σ r H h fl s' h' D re q eq post
      simp only [execC, Option.map_eq_some_iff] at eq
      obtain ⟨⟨x, h1⟩, e1, e2⟩ := eq
      cases e2
      exact PS.w (ps_expr peW (noComp0 hc.2)) (se s σ r H h x h1 _ re q e1 fun v r1 H1 st1 q1 rv => post σ r1 H1 st1 (re.step q st1) q1)
    · cases hc
  | .ret e, X, w, st, hc => by
    simp only [chkS] at hc
    split at hc
    · rename_i ev hx
      obtain ⟨p, rfl⟩ := asRet_eq hx
      have se := seE e w.wd hc
      intro s σ r H h fl s' h' D re q eq post
      simp only [execC, Option.map_eq_some_iff] at eq
      obtain ⟨⟨x, h1⟩, e1, e2⟩ := eq
      cases e2
      exact PS.w (ps_ret peW) (se s σ r H h x h1 _ re q e1 post)
    · cases hc
  | .retn, X, w, st, hc => by
    simp only [chkS] at hc
    obtain ⟨p, rfl⟩ := isRetN_eq hc
    intro s σ r H h fl s' h' D re q eq post
    simp only [execC, Option.some.injEq, Prod.mk.injEq] at eq
    obtain ⟨rfl, rfl, rfl⟩ := eq
    exact PS.w ps_retN (post _ r H .refl q .non)
  | .iff c a b, X, w, st, hc => by
    simp only [chkS] at hc
    split at hc
    · rename_i ec sa sb hx
      obtain ⟨p, rfl⟩ := asIfS_eq hx
      simp only [Bool.and_eq_true] at hc
      obtain ⟨⟨h1, h2⟩, h3⟩ := hc
      have tc := seT c w.wd h1
      have ta := ssSs a w h2
      have tb := ssSs b w h3
      intro s σ r H h fl s' h' D re q eq post
      simp only [execC, Option.bind_eq_some_iff] at eq
      obtain ⟨⟨k, h1⟩, e1, e2⟩ := eq
      refine PS.w (ps_if ptW pssW pssW) ?_
      refine tc s σ r H h k h1 _ re q e1 fun r1 H1 st1 q1 => ?_
      split at e2
      · rw [if_pos (by assumption)]
        exact ta s σ r1 H1 h1 _ _ _ _ (re.step q st1) q1 e2 (post.step st1)
      · rw [if_neg (by assumption)]
        exact tb s σ r1 H1 h1 _ _ _ _ (re.step q st1) q1 e2 (post.step st1)
    · cases hc
  | .fo t it b, X, w, st, hc => by
    simp only [chkS] at hc
    split at hc
    · rename_i tg ei sb hx
      obtain ⟨p, rfl⟩ := asFor_eq hx
      simp only [Bool.and_eq_true] at hc
      obtain ⟨⟨h1, h2⟩, h3⟩ := hc
      have sg := sgT w h1
      have si := seI it w.wd h2
      have tb := ssSs b w h3
      intro s σ r H h fl s' h' D re q eq post
      simp only [execC, Option.bind_eq_some_iff] at eq
      obtain ⟨⟨src, h1⟩, e1, e2⟩ := eq
      refine PS.w (ps_for w.po w.wd.calm piW pgW pssW (fold_of (chkI_set h2))) ?_
      refine si tg s σ r H h src h1 _ re q e1 fun J r1 H1 st1 q1 rj => ?_
      exact for_loop sg tb rj q1 (re.step q st1) e2 (post.step st1)
    · cases hc
  | .wh c b, X, w, st, hc => by
    simp only [chkS] at hc
    split at hc
    · rename_i ec sb hx
      obtain ⟨p, rfl⟩ := asWh_eq hx
      simp only [Bool.and_eq_true] at hc
      have tc := seT c w.wd hc.1
      have tb := ssSs b w hc.2
      intro s σ r H h fl s' h' D re q eq post
      simp only [execC] at eq
      exact PS.w (ps_while w.po ptW pssW) (wh_loop tc tb q re eq post)
    · cases hc
  | .pas, X, w, st, hc => by
    simp only [chkS] at hc
    intro s σ r H h fl s' h' D re q eq post
    simp only [execC, Option.some.injEq, Prod.mk.injEq] at eq
    obtain ⟨rfl, rfl, rfl⟩ := eq
    exact PS.w (isPass_ok hc) (post σ r H .refl re q)
  | .bad, X, w, st, hc => fun s σ r H h fl s' h' D re q eq post => by simp [execC] at eq
theorem ssSs : ∀ (cs : CSs) {X : Cx} (w : SW g F X) {sts : List Stmt}, chkSs g X.env.scope cs sts = true → SSs F W X cs sts
  | .nil, X, w, sts, hc => by
    simp only [chkSs, List.isEmpty_iff] at hc
    subst hc
    intro s σ r H h fl s' h' D re q eq post
    simp only [execCs, Option.some.injEq, Prod.mk.injEq] at eq
    obtain ⟨rfl, rfl, rfl⟩ := eq
    exact PSs.w pss_nil (post σ r H .refl re q)
  | .cons c cs, X, w, [], hc => by simp [chkSs] at hc
  | .cons c cs, X, w, st :: sts, hc => by
    simp only [chkSs, Bool.and_eq_true] at hc
    have s1 := ssS c w hc.1
    have s2 := ssSs cs w hc.2
    intro s σ r H h fl s' h' D re q eq post
    simp only [execCs] at eq
    refine PSs.w (pss_cons psW pssW) ?_
    split at eq
    · rename_i s3 h3 e3
      refine s1 s σ r H h .nx s3 h3 _ re q e3 fun σ1 r1 H1 st1 re1 q1 => ?_
      exact s2 s3 σ1 r1 H1 h3 fl s' h' D re1 q1 eq (post.step st1)
    · rename_i hne
      refine s1 s σ r H h fl s' h' _ re q eq ?_
      cases fl with
      | nx => exact absurd eq (hne s' h')
      | rt v => exact post
end
end
end TH

set_option maxHeartbeats 8000000
/-! A def. -/
namespace TH
open PySem PySem.Spec PyProof.Rows L2
theorem spC_len {P : Program} {w : World} {K : PySem.W.Frag} {n : Nat} {m : List CV → CH → Out} : ∀ vs H Q E, spC P w K n m vs H Q E → vs.length = n := fun _ _ _ _ h => h.1
/-- what stands in the module, for the defs that may be called -/
structure Md (P : Program) (w : World) (K : PySem.W.Frag) (mg : Str → Option Value) (base : Heap) (fn : List (Nat × String × Nat)) (gv : List (String × CV)) (F : Fns) (k : Nat) : Prop where
  bl : ∀ x ∈ blNames, mg x = none
  gl : ∀ p ∈ gv, ∃ u v, mg (Str.ofString p.1) = some u ∧ RelV v u ∧ ∀ r H, RV K r H p.2 v
  fn : ∀ (i : Nat) (p : String × Nat), fn.lookup i = some p → ∃ f fd ps, mg (Str.ofString p.1) = some (.ref f) ∧ PySem.W.keepIn K (.ref f) = true ∧ Binds K fd ps [] ∧ FnOk P w K mg base CX0 k f fd ps (spC P w K p.2 (F i))
section
variable {P : Program} {w : World} {K : PySem.W.Frag} {mg : Str → Option Value} {base : Heap} {fn : List (Nat × String × Nat)} {gv : List (String × CV)} {F : Fns} {k : Nat}
theorem re_start {X : Cx} {r : Ren} {H : Hp} {xs : List CV} {vs : List V} (us : RVs X.K r H xs vs) {N : List Str} : RE X r H (xs.map some ++ List.replicate (N.length - xs.length) none) (L2.start N vs) := by
  have hl := us.length
  refine ⟨by simp [L2.start, hl], fun i x e => ?_⟩
  by_cases hi : i < xs.length
  · rw [List.getElem?_append_left (by simpa using hi), List.getElem?_map, Option.map_eq_some_iff] at e
    obtain ⟨y, e1, e2⟩ := e
    cases e2
    obtain ⟨v, g, rv⟩ := us.get e1
    refine ⟨v, ?_, rv⟩
    unfold L2.start
    rw [List.getElem?_append_left (by simp; omega), List.getElem?_map, g]
    rfl
  · rw [List.getElem?_append_right (by simpa using hi)] at e
    rw [List.getElem?_replicate] at e
    split at e <;> cases e
theorem def_ok (M : Md P w K mg base fn gv F k) {x qual : Str} {st : Stmt} {f : Addr} {fd : FuncData} {N ps : List Str} (Fu : Fun K x qual st f fd) (S : FnScope N ps (defScope st)) {b : CSs} (W : Nat) (hc : chkSs ⟨N, fn, gv⟩ (defScope st) b (defBody st) = true) :
    FnOk P w K mg base CX0 (k + 1) f fd ps (spC P w K ps.length (runC F W N.length b)) := by
  refine Fu.ok S spC_len fun cdv A outer s H vs Q E hr sp => ?_
  refine ⟨_, pssW, ?_⟩
  obtain ⟨hl, r, h, xs, c, h', q, us, e, post⟩ := sp
  have hu : (cxOf CX0 P w K mg base N qual (defScope st) f cdv A outer s H E).nox.A.units + 70 < cLine := by
    have := hr.un
    show (A.deeper (envOfC qual (defScope st) s.heap.objs.size f cdv)).units + 70 < cLine
    omega
  have w' : SW ⟨N, fn, gv⟩ F (cxOf CX0 P w K mg base N qual (defScope st) f cdv A outer s H E).nox := by
    refine ⟨⟨rfl, S.nd, rfl, hu, M.bl, M.gl, fun i p hp => ?_⟩, fun _ => rfl, S.kind, PassesOwn.never⟩
    obtain ⟨f, fd, ps, h1, h2, h3, h4⟩ := M.fn i p hp
    exact ⟨k, f, fd, ps, h1, h2, hr, h3, h4⟩
  unfold runC at e
  split at e
  · rename_i s2 h2 e2
    cases e
    exact ssSs b w' hc _ _ r H h .nx s2 h' _ (re_start us) q e2 fun σ' r' H' st' re' q' => post _ r' H' st' q' .non
  · rename_i v s2 h2 e2
    cases e
    exact ssSs b w' hc _ _ r H h (.rt c) s2 h' _ (re_start us) q e2 post
  · cases e
def fup (F : Fns) (i : Nat) (m : List CV → CH → Out) : Fns := fun j => if j = i then m else F j
theorem Md.add (M : Md P w K mg base fn gv F k) {i : Nat} {nm : String} {n : Nat} {m : List CV → CH → Out} {f : Addr} {fd : FuncData} {ps : List Str} (h1 : mg (Str.ofString nm) = some (.ref f)) (h2 : PySem.W.keepIn K (.ref f) = true) (h3 : Binds K fd ps [])
    (h4 : FnOk P w K mg base CX0 (k + 1) f fd ps (spC P w K n m)) : Md P w K mg base ((i, nm, n) :: fn) gv (fup F i m) (k + 1) := by
  refine ⟨M.bl, M.gl, fun j p hp => ?_⟩
  rw [List.lookup_cons] at hp
  split at hp
  · rename_i hj
    rw [beq_iff_eq] at hj
    cases hp
    subst hj
    refine ⟨f, fd, ps, h1, h2, h3, ?_⟩
    unfold fup
    rw [if_pos rfl]
    exact h4
  · rename_i hj
    rw [beq_eq_false_iff_ne] at hj
    obtain ⟨f', fd', ps', a, b, c, d⟩ := M.fn j p hp
    refine ⟨f', fd', ps', a, b, c, ?_⟩
    unfold fup
    rw [if_neg hj]
    exact d.mono (by omega)
/-- a def, put in -/
theorem Md.def (M : Md P w K mg base fn gv F k) (i : Nat) (nm : String) {x qual : Str} {st : Stmt} {f : Addr} {fd : FuncData} {N ps : List Str} (Fu : Fun K x qual st f fd) (S : FnScope N ps (defScope st)) (b : CSs) (W : Nat) (hc : chkSs ⟨N, fn, gv⟩ (defScope st) b (defBody st) = true)
    (h1 : mg (Str.ofString nm) = some (.ref f)) (h3 : Binds K fd ps []) : Md P w K mg base ((i, nm, ps.length) :: fn) gv (fup F i (runC F W N.length b)) (k + 1) := M.add h1 Fu.kp h3 (def_ok M Fu S W hc)
end
/-- the law's own promise -/
def spLaw (n : Nat) (K : PySem.W.Frag) : Sp := fun vs H Q _ => ∃ (a : Addr) (ns : List Int), vs = [.ref a] ∧ Lk K H a (ns.map V.int) ∧ ns.length ≤ n ∧ ∀ H', Q (.bl true) H'
theorem lk_of {K : PySem.W.Frag} {H : Hp} {a : Addr} {xs : List V} (hO : Only H) (h : SqL K H a xs) : Lk K H a xs := by
  rcases h with (h | ⟨o, h⟩) | h
  · rcases hO a with z | ⟨o, ys, z⟩
    · rw [z] at h; cases h
    · rw [z] at h; cases h
  · exact .inl ⟨o, h⟩
  · exact .inr h
theorem law_imp {P : Program} {w : World} {K : PySem.W.Frag} {mg : Str → Option Value} {base : Heap} {k n : Nat} {f : Addr} {fd : FuncData} {ps : List Str} {m : List CV → CH → Out} (h : FnOk P w K mg base CX0 k f fd ps (spC P w K 1 m))
    (ht : ∀ ns : List Int, ns.length ≤ n → ∃ h', m [.lst (ns.map CV.int)] [] = some (.bl true, h')) : FnOk P w K mg base CX0 k f fd ps (spLaw n K) := by
  refine h.imp fun vs H Q E ⟨a, ns, e, hl, hn, q⟩ => ?_
  subst e
  obtain ⟨h', e⟩ := ht ns hn
  refine ⟨rfl, [], [], [.lst (ns.map CV.int)], .bl true, h', ⟨rfl, List.nodup_nil, fun n o a e _ => by simp at e⟩, .cons (.lst hl) .nil, e, fun v r' H' _ _ rv => ?_⟩
  cases rv
  exact q H'
def F0 : Fns := fun _ _ _ => none
theorem md0 {P : Program} {w : World} {K : PySem.W.Frag} {mg : Str → Option Value} {base : Heap} {gv : List (String × CV)} (bl : ∀ x ∈ blNames, mg x = none) (gl : ∀ p ∈ gv, ∃ u v, mg (Str.ofString p.1) = some u ∧ RelV v u ∧ ∀ r H, RV K r H p.2 v) :
    Md P w K mg base [] gv F0 0 := ⟨bl, gl, fun _ _ e => by simp at e⟩
theorem gl_int {K : PySem.W.Frag} {mg : Str → Option Value} {x : String} {i : Int} {t : Tok} (h : mg (Str.ofString x) = some (.int i t)) : ∃ u v, mg (Str.ofString x) = some u ∧ RelV v u ∧ ∀ r H, RV K r H (.int i) v := ⟨_, .int i, h, ⟨t, rfl⟩, fun _ _ => .int i⟩
theorem gl_str {K : PySem.W.Frag} {mg : Str → Option Value} {x : String} {s : List Nat} {t : Tok} (h : mg (Str.ofString x) = some (.str (toS s) t)) : ∃ u v, mg (Str.ofString x) = some u ∧ RelV v u ∧ ∀ r H, RV K r H (.str s) v := ⟨_, .str (toS s), h, ⟨t, rfl⟩, fun _ _ => .str s⟩
end TH

/-! The law's promise, with the script's bits. -/
namespace TH
open PySem PySem.Spec PyProof.Rows L2
theorem bits_nat {z : Int} {n : Nat} (h : Builtin.Int.intBits z ≤ n) : z.natAbs < 2 ^ n := by
  unfold Builtin.Int.intBits at h
  split at h
  · rename_i e
    rw [beq_iff_eq] at e
    subst e
    exact Nat.pow_pos (by omega)
  · exact Nat.lt_of_lt_of_le Nat.lt_log2_self (Nat.pow_le_pow_right (by omega) h)
def spLawB (n : Nat) (K : PySem.W.Frag) : Sp := fun vs H Q _ => ∃ (a : Addr) (ns : List Int), vs = [.ref a] ∧ Lk K H a (ns.map V.int) ∧ ns.length ≤ n ∧ (∀ z ∈ ns, z.natAbs < 2 ^ 1048576) ∧ ∀ H', Q (.bl true) H'
theorem law_impB {P : Program} {w : World} {K : PySem.W.Frag} {mg : Str → Option Value} {base : Heap} {k n : Nat} {f : Addr} {fd : FuncData} {ps : List Str} {m : List CV → CH → Out} (h : FnOk P w K mg base CX0 k f fd ps (spC P w K 1 m))
    (ht : ∀ ns : List Int, ns.length ≤ n → (∀ z ∈ ns, z.natAbs < 2 ^ 1048576) → ∃ h', m [.lst (ns.map CV.int)] [] = some (.bl true, h')) : FnOk P w K mg base CX0 k f fd ps (spLawB n K) := by
  refine h.imp fun vs H Q E ⟨a, ns, e, hl, hn, hb, q⟩ => ?_
  subst e
  obtain ⟨h', e⟩ := ht ns hn hb
  refine ⟨rfl, [], [], [.lst (ns.map CV.int)], .bl true, h', ⟨rfl, List.nodup_nil, fun n o a e _ => by simp at e⟩, .cons (.lst hl) .nil, e, fun v r' H' _ _ rv => ?_⟩
  cases rv
  exact q H'
end TH

/-! Plain facts about the clean evaluator. -/
namespace TH
/-! ### loops -/
theorem loop_inv {S : Type} {src : Src} {body : CV → S → CH → Option (S × CH)} (n : Nat) (I : Nat → S → CH → Prop) (step : ∀ i a h, i < n → I i a h → ∃ x a' h', src.item h i = some (some x) ∧ body x a h = some (a', h') ∧ I (i + 1) a' h')
    (fin : ∀ a h, I n a h → src.item h n = some none) : ∀ (k i : Nat) (a : S) (h : CH), i + k = n → I i a h → ∃ a' h', loopGo src body k i a h = some (a', h') ∧ I n a' h'
  | 0, i, a, h, e, hi => by
    have e' : i = n := by omega
    subst e'
    exact ⟨a, h, by unfold loopGo; rw [fin a h hi], hi⟩
  | k + 1, i, a, h, e, hi => by
    obtain ⟨x, a', h', e1, e2, hi'⟩ := step i a h (by omega) hi
    obtain ⟨a2, h2, e3, hi2⟩ := loop_inv n I step fin k (i + 1) a' h' (by omega) hi'
    exact ⟨a2, h2, by unfold loopGo; rw [e1]; simp only [e2, Option.bind_some]; exact e3, hi2⟩
theorem for_inv {src : Src} {body : CV → Env → CH → Option (Fl × Env × CH)} (n : Nat) (I : Nat → Env → CH → Prop) (step : ∀ i s h, i < n → I i s h → ∃ x s' h', src.item h i = some (some x) ∧ body x s h = some (.nx, s', h') ∧ I (i + 1) s' h')
    (fin : ∀ s h, I n s h → src.item h n = some none) : ∀ (k i : Nat) (s : Env) (h : CH), i + k = n → I i s h → ∃ s' h', forGo src body k i s h = some (.nx, s', h') ∧ I n s' h'
  | 0, i, a, h, e, hi => by
    have e' : i = n := by omega
    subst e'
    exact ⟨a, h, by unfold forGo; rw [fin a h hi], hi⟩
  | k + 1, i, a, h, e, hi => by
    obtain ⟨x, a', h', e1, e2, hi'⟩ := step i a h (by omega) hi
    obtain ⟨a2, h2, e3, hi2⟩ := for_inv n I step fin k (i + 1) a' h' (by omega) hi'
    exact ⟨a2, h2, by unfold forGo; rw [e1]; simp only [e2]; exact e3, hi2⟩
/-- what is walked stays: the turns by the items -/
theorem loop_map {src : Src} {body : CV → List CV → CH → Option (List CV × CH)} {xs : List CV} {h : CH} {p : CV → Bool} {f : CV → CV} (hs : ∀ i, src.item h i = some xs[i]?) (hb : ∀ x ∈ xs, ∀ acc, body x acc h = some (if p x = true then acc ++ [f x] else acc, h)) :
    loopGo src body xs.length 0 [] h = some ((xs.filter p).map f, h) := by
  have key : ∀ (k i : Nat) (acc : List CV), i + k = xs.length → loopGo src body k i acc h = some (acc ++ ((xs.drop i).filter p).map f, h) := by
    intro k
    induction k with
    | zero =>
      intro i acc e
      unfold loopGo
      rw [hs, List.getElem?_eq_none (by omega), List.drop_eq_nil_of_le (by omega)]
      simp
    | succ k ih =>
      intro i acc e
      have hl : i < xs.length := by omega
      unfold loopGo
      rw [hs, List.getElem?_eq_getElem hl]
      simp only [hb _ (List.getElem_mem hl), Option.bind_some]
      rw [ih (i + 1) _ (by omega), List.drop_eq_getElem_cons hl]
      by_cases hp : p xs[i] = true
      · rw [if_pos hp, List.filter_cons_of_pos hp]; simp
      · rw [if_neg hp, List.filter_cons_of_neg hp]
  have := key xs.length 0 [] (by omega)
  simpa using this
/-! ### heaps -/
theorem get_app {h t : CH} {i : Nat} {o : CO} (e : h[i]? = some o) : (h ++ t)[i]? = some o := by
  rw [List.getElem?_append_left (List.getElem?_eq_some_iff.mp e).1]; exact e
theorem get_new {h : CH} {o : CO} : (h ++ [o])[h.length]? = some o := by simp
theorem lt_of {h : CH} {i : Nat} {o : CO} (e : h[i]? = some o) : i < h.length := (List.getElem?_eq_some_iff.mp e).1
/-- the cells stand as they stood, but those in S -/
structure Off (S : List Nat) (h h' : CH) : Prop where
  len : h.length ≤ h'.length
  at' : ∀ i, i < h.length → i ∉ S → h'[i]? = h[i]?
theorem Off.refl (S : List Nat) (h : CH) : Off S h h := ⟨Nat.le_refl _, fun _ _ _ => rfl⟩
theorem Off.trans {S : List Nat} {h h1 h2 : CH} (a : Off S h h1) (b : Off S h1 h2) : Off S h h2 := ⟨Nat.le_trans a.len b.len, fun i hi hs => (b.at' i (Nat.lt_of_lt_of_le hi a.len) hs).trans (a.at' i hi hs)⟩
theorem Off.app (S : List Nat) (h t : CH) : Off S h (h ++ t) := ⟨by simp, fun i hi _ => List.getElem?_append_left hi⟩
theorem Off.set {S : List Nat} {h : CH} {i : Nat} {o : CO} (hi : i ∈ S) : Off S h (h.set i o) := ⟨by simp, fun j _ hj => List.getElem?_set_ne (fun e => hj (by rw [← e]; exact hi))⟩
theorem Off.mono {S T : List Nat} {h h' : CH} (a : Off S h h') (st : ∀ x ∈ S, x ∈ T) : Off T h h' := ⟨a.len, fun i hi hn => a.at' i hi fun z => hn (st i z)⟩
theorem Off.get {S : List Nat} {h h' : CH} {i : Nat} {o : CO} (a : Off S h h') (e : h[i]? = some o) (hs : i ∉ S) : h'[i]? = some o := (a.at' i (lt_of e) hs).trans e
/-- a cell that came later may be written -/
theorem Off.drop {S : List Nat} {h h1 h2 : CH} {p : Nat} (a : Off S h h1) (b : Off (p :: S) h1 h2) (hp : h.length ≤ p) : Off S h h2 := ⟨Nat.le_trans a.len b.len, fun i hi hs => (b.at' i (Nat.lt_of_lt_of_le hi a.len) (fun z => by
  rcases List.mem_cons.mp z with z | z
  · omega
  · exact hs z)).trans (a.at' i hi hs)⟩
/-! ### values -/
theorem den_int (h : CH) (n : Nat) (i : Int) : den h n (.int i) = some (.int i) := by cases n <;> simp only [den]
theorem den_str (h : CH) (n : Nat) (s : List Nat) : den h n (.str s) = some (.str s) := by cases n <;> simp only [den]
theorem den_bl (h : CH) (n : Nat) (b : Bool) : den h n (.bl b) = some (.bl b) := by cases n <;> simp only [den]
theorem den_non (h : CH) (n : Nat) : den h n .non = some .non := by cases n <;> simp only [den]
theorem dens_nil (h : CH) (n : Nat) : dens h n [] = some [] := by cases n <;> simp only [dens]
theorem dens_cons (h : CH) (n : Nat) (x : CV) (xs : List CV) : dens h n (x :: xs) = (den h n x).bind fun y => (dens h n xs).bind fun ys => some (y :: ys) := by cases n <;> simp only [dens]
theorem eqV_int (h : CH) (i j : Int) : eqV h (.int i) (.int j) = some (i == j) := by unfold eqV; simp [den_int, ceq]
theorem eqV_str (h : CH) (s t : List Nat) : eqV h (.str s) (.str t) = some (s == t) := by unfold eqV; simp [den_str, ceq]
theorem eqV_bl (h : CH) (s t : Bool) : eqV h (.bl s) (.bl t) = some (s == t) := by unfold eqV; simp [den_bl, ceq]
/-- a value without lists -/
inductive Flat : CV → Prop
  | non : Flat .non
  | bl (b : Bool) : Flat (.bl b)
  | int (i : Int) : Flat (.int i)
  | str (s : List Nat) : Flat (.str s)
theorem den_flat {h : CH} {n : Nat} {x : CV} (f : Flat x) : den h n x = some x := by
  cases f
  · exact den_non ..
  · exact den_bl ..
  · exact den_int ..
  · exact den_str ..
theorem dens_flat {h : CH} {n : Nat} : ∀ {xs : List CV}, (∀ x ∈ xs, Flat x) → dens h n xs = some xs
  | [], _ => dens_nil ..
  | x :: xs, f => by rw [dens_cons, den_flat (f x List.mem_cons_self), dens_flat fun y hy => f y (List.mem_cons_of_mem _ hy)]; rfl
theorem den_flist {h : CH} {n r : Nat} {xs : List CV} (e : h[r]? = some (.lst xs)) (f : ∀ x ∈ xs, Flat x) : den h (n + 1) (.ref r) = some (.lst xs) := by
  simp only [den, e, dens_flat f]; rfl
theorem den_ftup {h : CH} {n : Nat} {xs : List CV} (f : ∀ x ∈ xs, Flat x) : den h (n + 1) (.tup xs) = some (.tup xs) := by
  simp only [den, dens_flat f]; rfl
theorem ceqs_refl_strs : ∀ xs ys : List (List Nat), ceqs (xs.map CV.str) (ys.map CV.str) = (xs == ys)
  | [], [] => rfl
  | [], _ :: _ => rfl
  | _ :: _, [] => rfl
  | x :: xs, y :: ys => by
    simp only [List.map_cons, ceqs, ceq, ceqs_refl_strs xs ys]
    rfl
end TH

/-! The evaluator as a machine of small steps, for simp: a rest of the work is a function that stands without its arguments. -/
namespace TH
def bindE {β : Type} (a : Out) (k : CV → CH → Option β) : Option β := a.bind fun p => k p.1 p.2
def bindL {β : Type} (a : Option (List CV × CH)) (k : List CV → CH → Option β) : Option β := a.bind fun p => k p.1 p.2
def bindO {β : Type} (a : Option (Option Int × CH)) (k : Option Int → CH → Option β) : Option β := a.bind fun p => k p.1 p.2
def bindI {β : Type} (a : Option (Src × CH)) (k : Src → CH → Option β) : Option β := a.bind fun p => k p.1 p.2
def bindB {β : Type} (a : Option (Bool × CH)) (k : Bool → CH → Option β) : Option β := a.bind fun p => k p.1 p.2
theorem bindE_some {β : Type} {v : CV} {h : CH} {k : CV → CH → Option β} : bindE (some (v, h)) k = k v h := (rfl)
theorem bindL_some {β : Type} {v : List CV} {h : CH} {k : List CV → CH → Option β} : bindL (some (v, h)) k = k v h := (rfl)
theorem bindO_some {β : Type} {v : Option Int} {h : CH} {k : Option Int → CH → Option β} : bindO (some (v, h)) k = k v h := (rfl)
theorem bindI_some {β : Type} {v : Src} {h : CH} {k : Src → CH → Option β} : bindI (some (v, h)) k = k v h := (rfl)
theorem bindB_some {β : Type} {v : Bool} {h : CH} {k : Bool → CH → Option β} : bindB (some (v, h)) k = k v h := (rfl)
def liftB (b : Option Bool) (h : CH) : Out := b.map fun r => (.bl r, h)
theorem liftB_some {b : Bool} {h : CH} : liftB (some b) h = some (.bl b, h) := (rfl)
def retV (v : Option CV) (h : CH) : Out := v.map fun v => (v, h)
theorem retV_some {v : CV} {h : CH} : retV (some v) h = some (v, h) := (rfl)
def asB : CV → CH → Option (Bool × CH) := fun v h => match v with
  | .bl b => some (b, h)
  | _ => none
theorem asB_bl {b : Bool} {h : CH} : asB (.bl b) h = some (b, h) := (rfl)
section
variable {F : Fns} {W : Nat} {s : Env} {h : CH}
def bin1 (F : Fns) (b : CE) (s : Env) (o : BOp) : CV → CH → Out := fun x h => bindE (evalC F b s h) (binV o x)
theorem bin1_eq {b : CE} {o : BOp} {x : CV} : bin1 F b s o x h = bindE (evalC F b s h) (binV o x) := (rfl)
theorem e_bin {o : BOp} {a b : CE} : evalC F (.bin o a b) s h = bindE (evalC F a s h) (bin1 F b s o) := by simp only [evalC]; rfl
def cmpK (o : COp) (x : CV) : CV → CH → Out := fun y h => liftB (cmpV o x y h) h
theorem cmpK_eq {o : COp} {x y : CV} : cmpK o x y h = liftB (cmpV o x y h) h := (rfl)
def cmp1 (F : Fns) (b : CE) (s : Env) (o : COp) : CV → CH → Out := fun x h => bindE (evalC F b s h) (cmpK o x)
theorem cmp1_eq {b : CE} {o : COp} {x : CV} : cmp1 F b s o x h = bindE (evalC F b s h) (cmpK o x) := (rfl)
theorem e_cmp {o : COp} {a b : CE} : evalC F (.cmp o a b) s h = bindE (evalC F a s h) (cmp1 F b s o) := by simp only [evalC]; rfl
def cmpR (F : Fns) (c : CE) (s : Env) (o2 : COp) (y : CV) : Bool → CH → Out := fun r h => if r = true then bindE (evalC F c s h) (cmpK o2 y) else some (.bl false, h)
theorem cmpR_t {c : CE} {o2 : COp} {y : CV} : cmpR F c s o2 y true h = bindE (evalC F c s h) (cmpK o2 y) := (rfl)
theorem cmpR_f {c : CE} {o2 : COp} {y : CV} : cmpR F c s o2 y false h = some (.bl false, h) := (rfl)
def cmp2b (F : Fns) (c : CE) (s : Env) (o o2 : COp) (x : CV) : CV → CH → Out := fun y h => bindE (cmpK o x y h) fun r h => bindB (asB r h) (cmpR F c s o2 y)
def cmp2a (F : Fns) (b c : CE) (s : Env) (o o2 : COp) : CV → CH → Out := fun x h => bindE (evalC F b s h) (cmp2b F c s o o2 x)
theorem cmp2a_eq {b c : CE} {o o2 : COp} {x : CV} : cmp2a F b c s o o2 x h = bindE (evalC F b s h) (cmp2b F c s o o2 x) := (rfl)
theorem cmp2b_eq {c : CE} {o o2 : COp} {x y : CV} {r : Bool} (e : cmpV o x y h = some r) : cmp2b F c s o o2 x y h = cmpR F c s o2 y r h := by unfold cmp2b cmpK; rw [e]; rfl
theorem e_cmp2 {o o2 : COp} {a b c : CE} : evalC F (.cmp2 o o2 a b c) s h = bindE (evalC F a s h) (cmp2a F b c s o o2) := by
  simp only [evalC]
  unfold bindE cmp2a
  congr 1
  funext p
  unfold bindE cmp2b
  congr 1
  funext q
  unfold cmpK liftB
  cases cmpV o p.1 q.1 q.2 <;> rfl
def cmpR3 (F : Fns) (c d : CE) (s : Env) (o2 o3 : COp) (y : CV) : Bool → CH → Out := fun r h => if r = true then bindE (evalC F c s h) (cmp2b F d s o2 o3 y) else some (.bl false, h)
theorem cmpR3_t {c d : CE} {o2 o3 : COp} {y : CV} : cmpR3 F c d s o2 o3 y true h = bindE (evalC F c s h) (cmp2b F d s o2 o3 y) := (rfl)
theorem cmpR3_f {c d : CE} {o2 o3 : COp} {y : CV} : cmpR3 F c d s o2 o3 y false h = some (.bl false, h) := (rfl)
def cmp3b (F : Fns) (c d : CE) (s : Env) (o o2 o3 : COp) (x : CV) : CV → CH → Out := fun y h => bindE (cmpK o x y h) fun r h => bindB (asB r h) (cmpR3 F c d s o2 o3 y)
def cmp3a (F : Fns) (b c d : CE) (s : Env) (o o2 o3 : COp) : CV → CH → Out := fun x h => bindE (evalC F b s h) (cmp3b F c d s o o2 o3 x)
theorem cmp3a_eq {b c d : CE} {o o2 o3 : COp} {x : CV} : cmp3a F b c d s o o2 o3 x h = bindE (evalC F b s h) (cmp3b F c d s o o2 o3 x) := (rfl)
theorem cmp3b_eq {c d : CE} {o o2 o3 : COp} {x y : CV} {r : Bool} (e : cmpV o x y h = some r) : cmp3b F c d s o o2 o3 x y h = cmpR3 F c d s o2 o3 y r h := by unfold cmp3b cmpK; rw [e]; rfl
theorem e_cmp3 {o o2 o3 : COp} {a b c d : CE} : evalC F (.cmp3 o o2 o3 a b c d) s h = bindE (evalC F a s h) (cmp3a F b c d s o o2 o3) := by
  simp only [evalC]
  unfold bindE cmp3a
  congr 1
  funext p
  unfold bindE cmp3b
  congr 1
  funext q
  unfold cmpK liftB
  cases cmpV o p.1 q.1 q.2 with
  | none => rfl
  | some r =>
    cases r with
    | false => rfl
    | true =>
      show (evalC F c s q.2).bind _ = (evalC F c s q.2).bind _
      congr 1
      funext u
      unfold cmp2b cmpK liftB
      cases cmpV o2 q.1 u.1 u.2 <;> rfl
def andK (F : Fns) (b : CE) (s : Env) : Bool → CH → Out := fun k h => if k = true then (testC F b s h).map fun q => (.bl q.1, q.2) else some (.bl false, h)
def orK (F : Fns) (b : CE) (s : Env) : Bool → CH → Out := fun k h => if k = true then some (.bl true, h) else (testC F b s h).map fun q => (.bl q.1, q.2)
def bOut : Bool → CH → Out := fun k h => some (.bl k, h)
theorem bOut_eq {k : Bool} : bOut k h = some (.bl k, h) := (rfl)
theorem andK_t {b : CE} : andK F b s true h = bindB (testC F b s h) bOut := by unfold andK bindB bOut; rw [if_pos rfl]; cases testC F b s h <;> rfl
theorem andK_f {b : CE} : andK F b s false h = some (.bl false, h) := (rfl)
theorem orK_f {b : CE} : orK F b s false h = bindB (testC F b s h) bOut := by unfold orK bindB bOut; rw [if_neg Bool.false_ne_true]; cases testC F b s h <;> rfl
theorem orK_t {b : CE} : orK F b s true h = some (.bl true, h) := (rfl)
theorem e_and {a b : CE} : evalC F (.and a b) s h = bindB (testC F a s h) (andK F b s) := by simp only [evalC]; rfl
theorem e_or {a b : CE} : evalC F (.or a b) s h = bindB (testC F a s h) (orK F b s) := by simp only [evalC]; rfl
def notK : Bool → CH → Out := fun k h => some (.bl (!k), h)
theorem notK_eq {k : Bool} : notK k h = some (.bl (!k), h) := (rfl)
theorem e_not {a : CE} : evalC F (.not a) s h = bindB (testC F a s h) notK := by simp only [evalC]; unfold bindB notK; cases testC F a s h <;> rfl
def negK : CV → CH → Out := fun x h => match x with
  | .int i => some (.int (-i), h)
  | _ => none
theorem negK_int {i : Int} : negK (.int i) h = some (.int (-i), h) := (rfl)
theorem e_neg {a : CE} : evalC F (.neg a) s h = bindE (evalC F a s h) negK := by simp only [evalC]; unfold bindE negK; cases evalC F a s h with | none => rfl | some p => obtain ⟨x, h⟩ := p; cases x <;> rfl
def iteK (F : Fns) (a b : CE) (s : Env) : Bool → CH → Out := fun k h => if k = true then evalC F a s h else evalC F b s h
theorem iteK_t {a b : CE} : iteK F a b s true h = evalC F a s h := (rfl)
theorem iteK_f {a b : CE} : iteK F a b s false h = evalC F b s h := (rfl)
theorem e_ite {c a b : CE} : evalC F (.ite c a b) s h = bindB (testC F c s h) (iteK F a b s) := by simp only [evalC]; rfl
def tupK2 : List CV → CH → Out := fun xs h => some (.tup xs, h)
theorem tupK2_eq {xs : List CV} : tupK2 xs h = some (.tup xs, h) := (rfl)
theorem e_tup {es : CEs} : evalC F (.tup es) s h = bindL (evalCs F es s h) tupK2 := by simp only [evalC]; unfold bindL tupK2; cases evalCs F es s h <;> rfl
def lstK : List CV → CH → Out := fun xs h => some (.ref h.length, h ++ [.lst xs])
theorem lstK_eq {xs : List CV} : lstK xs h = some (.ref h.length, h ++ [.lst xs]) := (rfl)
theorem e_lst {es : CEs} : evalC F (.lst es) s h = bindL (evalCs F es s h) lstK := by simp only [evalC]; rfl
theorem e_dct0 : evalC F .dct0 s h = some (.ref h.length, h ++ [.dct []]) := by simp only [evalC]; rfl
def ixK (x : CV) : CV → CH → Out := fun i h => retV (ixV x i h) h
theorem ixK_eq {x i : CV} : ixK x i h = retV (ixV x i h) h := (rfl)
def ix1 (F : Fns) (i : CE) (s : Env) : CV → CH → Out := fun x h => bindE (evalC F i s h) (ixK x)
theorem ix1_eq {i : CE} {x : CV} : ix1 F i s x h = bindE (evalC F i s h) (ixK x) := (rfl)
theorem e_ix {a i : CE} : evalC F (.ix a i) s h = bindE (evalC F a s h) (ix1 F i s) := by simp only [evalC]; rfl
def sl2 (F : Fns) (hi : CO1) (s : Env) (x : CV) : Option Int → CH → Out := fun lo h => bindO (evalO F hi s h) (slV x lo)
theorem sl2_eq {hi : CO1} {x : CV} {lo : Option Int} : sl2 F hi s x lo h = bindO (evalO F hi s h) (slV x lo) := (rfl)
def sl1 (F : Fns) (lo hi : CO1) (s : Env) : CV → CH → Out := fun x h => bindO (evalO F lo s h) (sl2 F hi s x)
theorem sl1_eq {lo hi : CO1} {x : CV} : sl1 F lo hi s x h = bindO (evalO F lo s h) (sl2 F hi s x) := (rfl)
theorem e_sl {a : CE} {lo hi : CO1} : evalC F (.sl a lo hi) s h = bindE (evalC F a s h) (sl1 F lo hi s) := by simp only [evalC]; rfl
theorem e_rev {a : CE} : evalC F (.rev a) s h = bindE (evalC F a s h) revV := by simp only [evalC]; rfl
theorem o_no : evalO F .no s h = some (none, h) := by simp only [evalO]
def oK : CV → CH → Option (Option Int × CH) := fun x h => match x with
  | .int i => some (some i, h)
  | _ => none
theorem oK_int {i : Int} : oK (.int i) h = some (some i, h) := (rfl)
theorem o_ex {e : CE} : evalO F (.ex e) s h = bindE (evalC F e s h) oK := by simp only [evalO]; unfold bindE oK; cases evalC F e s h with | none => rfl | some p => obtain ⟨x, h⟩ := p; cases x <;> rfl
theorem e_call {f : Nat} {es : CEs} : evalC F (.call f es) s h = bindL (evalCs F es s h) (F f) := by simp only [evalC]; rfl
theorem e_bi {f : Bi} {es : CEs} : evalC F (.bi f es) s h = bindL (evalCs F es s h) (biV f) := by simp only [evalC]; rfl
def me1 (F : Fns) (m : Me) (es : CEs) (s : Env) : CV → CH → Out := fun x h => if recvOk m x h = true then bindL (evalCs F es s h) (meV m x) else none
theorem me1_eq {m : Me} {es : CEs} {x : CV} (e : recvOk m x h = true) : me1 F m es s x h = bindL (evalCs F es s h) (meV m x) := by unfold me1; rw [if_pos e]
theorem e_me {m : Me} {o : CE} {es : CEs} : evalC F (.me m o es) s h = bindE (evalC F o s h) (me1 F m es s) := by simp only [evalC]; rfl
theorem s_nil : evalCs F .nil s h = some ([], h) := by simp only [evalCs]
def consB (x : CV) : List CV → CH → Option (List CV × CH) := fun xs h => some (x :: xs, h)
theorem consB_eq {x : CV} {xs : List CV} : consB x xs h = some (x :: xs, h) := (rfl)
def consA (F : Fns) (es : CEs) (s : Env) : CV → CH → Option (List CV × CH) := fun x h => bindL (evalCs F es s h) (consB x)
theorem consA_eq {es : CEs} {x : CV} : consA F es s x h = bindL (evalCs F es s h) (consB x) := (rfl)
theorem s_cons {e : CE} {es : CEs} : evalCs F (.cons e es) s h = bindE (evalC F e s h) (consA F es s) := by
  simp only [evalCs]
  unfold bindE consA
  congr 1
  funext p
  unfold bindL consB
  cases evalCs F es s p.2 <;> rfl
theorem e_lit {v : CV} : evalC F (.lit v) s h = some (v, h) := by simp only [evalC]
theorem e_glob {x : String} {v : CV} : evalC F (.glob x v) s h = some (v, h) := by simp only [evalC]
theorem e_var0 {v : CV} : evalC F (.var 0) (some v :: s) h = some (v, h) := by simp only [evalC, List.getElem?_cons_zero]
theorem e_varS {n : Nat} {x : Option CV} : evalC F (.var (n + 1)) (x :: s) h = evalC F (.var n) s h := by simp only [evalC, List.getElem?_cons_succ]
def compK (F : Fns) (elt cond : CE) (i : Nat) (s : Env) : Src → CH → Out := fun src h => if src.len h ≤ lim then
  (loopGo src (fun x acc h => (testC F cond (s.set i (some x)) h).bind fun b => if b.1 = true then (evalC F elt (s.set i (some x)) b.2).map fun y => (acc ++ [y.1], y.2) else some (acc, b.2)) (src.len h) 0 ([] : List CV) h).bind fun q => newc q.2 (.lst q.1) else none
theorem e_comp {elt cond : CE} {i : Nat} {it : CI} : evalC F (.comp elt i it cond) s h = bindI (evalI F it s h) (compK F elt cond i s) := by simp only [evalC]; rfl
def r1K : CV → CH → Option (Src × CH) := fun x h => match x with
  | .int j => if small62 j then some (.ints 0 j.toNat, h) else none
  | _ => none
theorem r1K_int {j : Int} (e : small62 j = true) : r1K (.int j) h = some (.ints 0 j.toNat, h) := by unfold r1K; simp only [e]; rfl
theorem i_range1 {a : CE} : evalI F (.range1 a) s h = bindE (evalC F a s h) r1K := by simp only [evalI]; unfold bindE r1K; cases evalC F a s h with | none => rfl | some p => obtain ⟨x, h⟩ := p; cases x <;> rfl
def r2K (x : CV) : CV → CH → Option (Src × CH) := fun y h => match x, y with
  | .int i, .int j => if small62 i && small62 j then some (.ints i (j - i).toNat, h) else none
  | _, _ => none
theorem r2K_int {i j : Int} (e : small62 i = true) (e2 : small62 j = true) : r2K (.int i) (.int j) h = some (.ints i (j - i).toNat, h) := by unfold r2K; simp only [e, e2]; rfl
def r2a (F : Fns) (b : CE) (s : Env) : CV → CH → Option (Src × CH) := fun x h => bindE (evalC F b s h) (r2K x)
theorem r2a_eq {b : CE} {x : CV} : r2a F b s x h = bindE (evalC F b s h) (r2K x) := (rfl)
theorem i_range2 {a b : CE} : evalI F (.range2 a b) s h = bindE (evalC F a s h) (r2a F b s) := by
  simp only [evalI]
  unfold bindE r2a
  congr 1
def vK : CV → CH → Option (Src × CH) := fun x h => srcOf h x
theorem vK_tup {xs : List CV} : vK (.tup xs) h = some (.tup xs, h) := (rfl)
theorem vK_str {xs : List Nat} : vK (.str xs) h = some (.str xs, h) := (rfl)
theorem vK_lst {r : Nat} {xs : List CV} (e : h[r]? = some (.lst xs)) : vK (.ref r) h = some (.cell r, h) := by unfold vK srcOf; simp only [e]
theorem i_val {a : CE} : evalI F (.val a) s h = bindE (evalC F a s h) vK := by simp only [evalI]; rfl
/-! tests -/
theorem t_lit {b : Bool} : testC F (.lit (.bl b)) s h = some (b, h) := by simp only [testC]
theorem t_cmp {o : COp} {a b : CE} : testC F (.cmp o a b) s h = bindE (evalC F (.cmp o a b) s h) asB := by
  simp only [testC, evalC]
  unfold bindE
  cases evalC F a s h with
  | none => rfl
  | some p =>
    simp only [Option.bind_some]
    cases evalC F b s p.2 with
    | none => rfl
    | some q => simp only [Option.bind_some]; cases cmpV o p.1 q.1 q.2 <;> rfl
theorem t_cmp2 {o o2 : COp} {a b c : CE} : testC F (.cmp2 o o2 a b c) s h = bindE (evalC F (.cmp2 o o2 a b c) s h) asB := by
  simp only [testC, evalC]
  unfold bindE
  cases evalC F a s h with
  | none => rfl
  | some p =>
    simp only [Option.bind_some]
    cases evalC F b s p.2 with
    | none => rfl
    | some q =>
      simp only [Option.bind_some]
      cases cmpV o p.1 q.1 q.2 with
      | none => rfl
      | some r =>
        cases r with
        | false => rfl
        | true =>
          simp only [Option.bind_some, if_true]
          cases evalC F c s q.2 with
          | none => rfl
          | some u => simp only [Option.bind_some]; cases cmpV o2 q.1 u.1 u.2 <;> rfl
theorem t_cmp3 {o o2 o3 : COp} {a b c d : CE} : testC F (.cmp3 o o2 o3 a b c d) s h = bindE (evalC F (.cmp3 o o2 o3 a b c d) s h) asB := by
  simp only [testC, evalC]
  unfold bindE
  cases evalC F a s h with
  | none => rfl
  | some p =>
    simp only [Option.bind_some]
    cases evalC F b s p.2 with
    | none => rfl
    | some q =>
      simp only [Option.bind_some]
      cases cmpV o p.1 q.1 q.2 with
      | none => rfl
      | some r =>
        cases r with
        | false => rfl
        | true =>
          simp only [Option.bind_some, if_true]
          cases evalC F c s q.2 with
          | none => rfl
          | some u =>
            simp only [Option.bind_some]
            cases cmpV o2 q.1 u.1 u.2 with
            | none => rfl
            | some r =>
              cases r with
              | false => rfl
              | true =>
                simp only [Option.bind_some, if_true]
                cases evalC F d s u.2 with
                | none => rfl
                | some u2 => simp only [Option.bind_some]; cases cmpV o3 u.1 u2.1 u2.2 <;> rfl
theorem t_call {f : Nat} {es : CEs} : testC F (.call f es) s h = bindE (bindL (evalCs F es s h) (F f)) asB := by
  simp only [testC]
  unfold bindL bindE asB
  cases evalCs F es s h with
  | none => rfl
  | some p => simp only [Option.bind_some] <;> (cases F f p.1 p.2 with | none => rfl | some q => obtain ⟨x, h⟩ := q; cases x <;> rfl)
theorem t_bi {f : Bi} {es : CEs} : testC F (.bi f es) s h = bindE (bindL (evalCs F es s h) (biV f)) asB := by
  simp only [testC]
  unfold bindL bindE asB
  cases evalCs F es s h with
  | none => rfl
  | some p => simp only [Option.bind_some] <;> (cases biV f p.1 p.2 with | none => rfl | some q => obtain ⟨x, h⟩ := q; cases x <;> rfl)
theorem t_var {i : Nat} : testC F (.var i) s h = bindE (evalC F (.var i) s h) asB := by
  simp only [testC, evalC]
  unfold bindE asB
  cases s[i]? with
  | none => rfl
  | some o =>
    cases o with
    | none => rfl
    | some v => cases v <;> rfl
def andT (F : Fns) (b : CE) (s : Env) : Bool → CH → Option (Bool × CH) := fun k h => if k = true then testC F b s h else some (false, h)
def orT (F : Fns) (b : CE) (s : Env) : Bool → CH → Option (Bool × CH) := fun k h => if k = true then some (true, h) else testC F b s h
def notT : Bool → CH → Option (Bool × CH) := fun k h => some (!k, h)
theorem andT_t {b : CE} : andT F b s true h = testC F b s h := (rfl)
theorem andT_f {b : CE} : andT F b s false h = some (false, h) := (rfl)
theorem orT_f {b : CE} : orT F b s false h = testC F b s h := (rfl)
theorem orT_t {b : CE} : orT F b s true h = some (true, h) := (rfl)
theorem notT_eq {k : Bool} : notT k h = some (!k, h) := (rfl)
theorem t_and {a b : CE} : testC F (.and a b) s h = bindB (testC F a s h) (andT F b s) := by simp only [testC]; rfl
theorem t_or {a b : CE} : testC F (.or a b) s h = bindB (testC F a s h) (orT F b s) := by simp only [testC]; rfl
theorem t_not {a : CE} : testC F (.not a) s h = bindB (testC F a s h) notT := by simp only [testC]; unfold bindB notT; cases testC F a s h <;> rfl
/-! statements -/
abbrev SOut := Option (Fl × Env × CH)
def seqC (a : SOut) (k : Env → CH → SOut) : SOut := match a with
  | some (.nx, s, h) => k s h
  | r => r
theorem seqC_nx {k : Env → CH → SOut} : seqC (some (.nx, s, h)) k = k s h := (rfl)
theorem seqC_rt {v : CV} {k : Env → CH → SOut} : seqC (some (.rt v, s, h)) k = some (.rt v, s, h) := (rfl)
theorem x_nil : execCs F W .nil s h = some (.nx, s, h) := by simp only [execCs]
theorem x_cons {a : CS} {b : CSs} : execCs F W (.cons a b) s h = seqC (execC F W a s h) (execCs F W b) := by simp only [execCs]; rfl
def retS (a : Option (Env × CH)) : SOut := a.map fun q => (.nx, q.1, q.2)
theorem retS_some : retS (some (s, h)) = some (.nx, s, h) := (rfl)
def asgK (F : Fns) (t : CT) (s : Env) : CV → CH → SOut := fun x h => retS (asgC F t x s h)
theorem asgK_nm {i : Nat} {x : CV} : asgK F (.nm i) s x h = some (.nx, s.set i (some x), h) := (rfl)
theorem asgK_tup {is : List Nat} {xs : List CV} {s' : Env} (e : setN s is xs = some s') : asgK F (.tup is) s (.tup xs) h = some (.nx, s', h) := by unfold asgK; simp only [asgC, e]; rfl
theorem asgK_unl {is : List Nat} {r : Nat} {xs : List CV} {s' : Env} (g : h[r]? = some (.lst xs)) (e : setN s is xs = some s') : asgK F (.tup is) s (.ref r) h = some (.nx, s', h) := by unfold asgK; simp only [asgC, rdl, g, Option.bind_some, e, Option.map_some]; rfl
def retH (s : Env) (o : Option CH) : Option (Env × CH) := o.map fun h => (s, h)
theorem retH_some : retH s (some h) = some (s, h) := (rfl)
def sub2 (x o : CV) (s : Env) : CV → CH → Option (Env × CH) := fun i h => retH s (setV o i x h)
theorem sub2_eq {x o i : CV} : sub2 x o s i h = retH s (setV o i x h) := (rfl)
def sub1 (F : Fns) (i : CE) (x : CV) (s : Env) : CV → CH → Option (Env × CH) := fun o h => bindE (evalC F i s h) (sub2 x o s)
theorem sub1_eq {i : CE} {x o : CV} : sub1 F i x s o h = bindE (evalC F i s h) (sub2 x o s) := (rfl)
theorem a_sub {o i : CE} {x : CV} : asgC F (.sub o i) x s h = bindE (evalC F o s h) (sub1 F i x s) := by
  simp only [asgC]
  unfold bindE sub1
  congr 1
theorem asgK_sub {o i : CE} {x : CV} : asgK F (.sub o i) s x h = retS (bindE (evalC F o s h) (sub1 F i x s)) := by unfold asgK; rw [a_sub]
theorem x_asg {t : CT} {e : CE} : execC F W (.asg t e) s h = bindE (evalC F e s h) (asgK F t s) := by simp only [execC]; rfl
def exK (s : Env) : CV → CH → SOut := fun _ h => some (.nx, s, h)
theorem exK_eq {v : CV} : exK s v h = some (.nx, s, h) := (rfl)
theorem x_expr {e : CE} : execC F W (.expr e) s h = bindE (evalC F e s h) (exK s) := by simp only [execC]; unfold bindE exK; cases evalC F e s h <;> rfl
def retK (s : Env) : CV → CH → SOut := fun v h => some (.rt v, s, h)
theorem retK_eq {v : CV} : retK s v h = some (.rt v, s, h) := (rfl)
theorem x_ret {e : CE} : execC F W (.ret e) s h = bindE (evalC F e s h) (retK s) := by simp only [execC]; unfold bindE retK; cases evalC F e s h <;> rfl
theorem x_retn : execC F W .retn s h = some (.rt .non, s, h) := by simp only [execC]
def iffK (F : Fns) (W : Nat) (a b : CSs) (s : Env) : Bool → CH → SOut := fun k h => if k = true then execCs F W a s h else execCs F W b s h
theorem iffK_t {a b : CSs} : iffK F W a b s true h = execCs F W a s h := (rfl)
theorem iffK_f {a b : CSs} : iffK F W a b s false h = execCs F W b s h := (rfl)
theorem x_iff {c : CE} {a b : CSs} : execC F W (.iff c a b) s h = bindB (testC F c s h) (iffK F W a b s) := by simp only [execC]; rfl
def foB (F : Fns) (W : Nat) (t : CT) (b : CSs) : CV → Env → CH → SOut := fun x s h => (asgC F t x s h).bind fun q => execCs F W b q.1 q.2
def foK (F : Fns) (W : Nat) (t : CT) (b : CSs) (s : Env) : Src → CH → SOut := fun src h => forGo src (foB F W t b) (src.len h) 0 s h
theorem x_fo {t : CT} {it : CI} {b : CSs} : execC F W (.fo t it b) s h = bindI (evalI F it s h) (foK F W t b s) := by simp only [execC]; rfl
theorem foB_nm {i : Nat} {b : CSs} {x : CV} : foB F W (.nm i) b x s h = execCs F W b (s.set i (some x)) h := by unfold foB; simp only [asgC, Option.bind_some]
theorem foB_tup {is : List Nat} {b : CSs} {xs : List CV} {s' : Env} (e : setN s is xs = some s') : foB F W (.tup is) b (.tup xs) s h = execCs F W b s' h := by unfold foB; simp only [asgC, e, Option.map_some, Option.bind_some]
theorem x_wh {c : CE} {b : CSs} : execC F W (.wh c b) s h = whGo (testC F c) (execCs F W b) W s h := by simp only [execC]
theorem x_pas : execC F W .pas s h = some (.nx, s, h) := by simp only [execC]
def par1 (F : Fns) (i j : Nat) (b : CE) (s : Env) : CV → CH → SOut := fun x h => bindE (evalC F b s h) fun y h => some (.nx, (s.set i (some x)).set j (some y), h)
theorem par1_eq {i j : Nat} {b : CE} {x y : CV} {h1 : CH} (e : evalC F b s h = some (y, h1)) : par1 F i j b s x h = some (.nx, (s.set i (some x)).set j (some y), h1) := by unfold par1; rw [e]; rfl
theorem x_par {i j : Nat} {a b : CE} : execC F W (.par i j a b) s h = bindE (evalC F a s h) (par1 F i j b s) := by
  simp only [execC]
  unfold bindE par1
  congr 1
  funext p
  unfold bindE
  cases evalC F b s p.2 <;> rfl
def runK : SOut → Out
  | some (.nx, _, h) => some (.non, h)
  | some (.rt v, _, h) => some (v, h)
  | none => none
theorem runK_nx : runK (some (.nx, s, h)) = some (.non, h) := (rfl)
theorem runK_rt {v : CV} : runK (some (.rt v, s, h)) = some (v, h) := (rfl)
theorem run_eq {n : Nat} {b : CSs} {args : List CV} : runC F W n b args h = runK (execCs F W b (args.map some ++ List.replicate (n - args.length) none) h) := by unfold runC; cases execCs F W b (args.map some ++ List.replicate (n - args.length) none) h with | none => rfl | some p => obtain ⟨a, b, c⟩ := p; cases a <;> rfl
end
/-! ### operators by shape -/
section
variable {h : CH}
theorem v_add {i j : Int} : binV .add (.int i) (.int j) h = some (.int (i + j), h) := (rfl)
theorem v_sub {i j : Int} : binV .sub (.int i) (.int j) h = some (.int (i - j), h) := (rfl)
theorem v_mul {i j : Int} (e : (b64 i || b64 j) = true) : binV .mul (.int i) (.int j) h = some (.int (i * j), h) := by simp only [binV, e, Bool.true_or, if_true]
theorem v_mod {i j : Int} (e : 0 < j) : binV .mod (.int i) (.int j) h = some (.int (i % j), h) := by simp only [binV, e, if_true]
theorem v_fdiv {i j : Int} (e : 0 < j) (e2 : j < 1073741824) : binV .fdiv (.int i) (.int j) h = some (.int (i / j), h) := by simp only [binV, e, e2, and_self, if_true]
theorem v_addS {a b : List Nat} (e : a.length + b.length ≤ lim) : binV .add (.str a) (.str b) h = some (.str (a ++ b), h) := by simp only [binV, e, if_true]
theorem v_addT {a b : List CV} (e : a.length + b.length ≤ lim) : binV .add (.tup a) (.tup b) h = some (.tup (a ++ b), h) := by simp only [binV, e, if_true]
theorem v_addL {a b : Nat} {xs ys : List CV} (e1 : h[a]? = some (.lst xs)) (e2 : h[b]? = some (.lst ys)) (e : xs.length + ys.length ≤ lim) : binV .add (.ref a) (.ref b) h = some (.ref h.length, h ++ [.lst (xs ++ ys)]) := by simp only [binV, e1, e2, e, if_true]; rfl
theorem v_pow {i j : Int} (e : 0 ≤ j ∧ j ≤ 1000000 ∧ i.natAbs < 2 ^ 64) : binV .pow (.int i) (.int j) h = some (.int (i ^ j.toNat), h) := by simp only [binV, e, and_self, if_true]
theorem c_lt {i j : Int} : cmpV .lt (.int i) (.int j) h = some (decide (i < j)) := (rfl)
theorem c_le {i j : Int} : cmpV .le (.int i) (.int j) h = some (decide (i ≤ j)) := (rfl)
theorem c_gt {i j : Int} : cmpV .gt (.int i) (.int j) h = some (decide (j < i)) := (rfl)
theorem c_ge {i j : Int} : cmpV .ge (.int i) (.int j) h = some (decide (j ≤ i)) := (rfl)
theorem c_eq {a b : CV} {k : Bool} (e : eqV h a b = some k) : cmpV .eq a b h = some k := by simp only [cmpV, e]
theorem c_ne {a b : CV} {k : Bool} (e : eqV h a b = some k) : cmpV .ne a b h = some (!k) := by simp only [cmpV, e]; rfl
theorem c_eqI {i j : Int} : cmpV .eq (.int i) (.int j) h = some (decide (i = j)) := by rw [c_eq (eqV_int h i j)]; congr 1
theorem c_neI {i j : Int} : cmpV .ne (.int i) (.int j) h = some (!decide (i = j)) := by rw [c_ne (eqV_int h i j)]; congr 1
theorem c_eqS {s t : List Nat} : cmpV .eq (.str s) (.str t) h = some (decide (s = t)) := by rw [c_eq (eqV_str h s t), Bool.beq_eq_decide_eq]
theorem c_neS {s t : List Nat} : cmpV .ne (.str s) (.str t) h = some (!decide (s = t)) := by rw [c_ne (eqV_str h s t), Bool.beq_eq_decide_eq]
theorem c_in {a b : CV} {k : Bool} (e : inV h a b = some k) : cmpV .isin a b h = some k := by simp only [cmpV, e]
theorem c_notin {a b : CV} {k : Bool} (e : inV h a b = some k) : cmpV .notin a b h = some (!k) := by simp only [cmpV, e]; rfl
theorem c_isN {a : CV} : cmpV .is a .non h = some (decide (a = .non)) := by cases a <;> rfl
theorem c_isnotN {a : CV} : cmpV .isnot a .non h = some (decide (a ≠ .non)) := by cases a <;> rfl
theorem c_isB {a b : Bool} : cmpV .is (.bl a) (.bl b) h = some (a == b) := (rfl)
theorem c_isnotB {a b : Bool} : cmpV .isnot (.bl a) (.bl b) h = some (a != b) := (rfl)
theorem rdl_of {r : Nat} {xs : List CV} (e : h[r]? = some (.lst xs)) : rdl h r = some xs := by unfold rdl; simp only [e]
theorem x_lst {r : Nat} {xs : List CV} {i : Int} (e : h[r]? = some (.lst xs)) : ixV (.ref r) (.int i) h = atI xs i := by simp only [ixV, e]
theorem x_tup {xs : List CV} {i : Int} : ixV (.tup xs) (.int i) h = atI xs i := by simp only [ixV]
theorem x_lstV {xs : List CV} {i : Int} : ixV (.lst xs) (.int i) h = atI xs i := by simp only [ixV]
theorem x_str {s : List Nat} {i : Int} {c : Nat} (hl : s.length ≤ lim) (e : atI s i = some c) : ixV (.str s) (.int i) h = some (.str [c]) := by simp only [ixV, hl, e, if_true]; rfl
theorem set_lst {r : Nat} {xs : List CV} {i : Int} {v : CV} {j : Nat} (e : h[r]? = some (.lst xs)) (e2 : ixN xs.length i = some j) : setV (.ref r) (.int i) v h = some (h.set r (.lst (xs.set j v))) := by simp only [setV, e, e2]; rfl
theorem sl_lst {r : Nat} {xs : List CV} {lo hi : Option Int} (e : h[r]? = some (.lst xs)) : slV (.ref r) lo hi h = some (.ref h.length, h ++ [.lst (cut xs lo hi)]) := by simp only [slV, rdl_of e]; rfl
theorem sl_lstV {xs : List CV} {lo hi : Option Int} : slV (.lst xs) lo hi h = some (.ref h.length, h ++ [.lst (cut xs lo hi)]) := (rfl)
theorem sl_tup {xs : List CV} {lo hi : Option Int} : slV (.tup xs) lo hi h = some (.tup (cut xs lo hi), h) := (rfl)
theorem sl_str {s : List Nat} {lo hi : Option Int} (hl : s.length ≤ lim) : slV (.str s) lo hi h = some (.str (cut s lo hi), h) := by simp only [slV, hl, if_true]
theorem b_lenS {s : List Nat} (hl : s.length ≤ lim) : biV .len [.str s] h = some (.int s.length, h) := by simp only [biV, hl, if_true]
theorem b_lenT {xs : List CV} : biV .len [.tup xs] h = some (.int xs.length, h) := (rfl)
theorem b_lenV {xs : List CV} : biV .len [.lst xs] h = some (.int xs.length, h) := (rfl)
theorem b_lenL {r : Nat} {xs : List CV} (e : h[r]? = some (.lst xs)) : biV .len [.ref r] h = some (.int xs.length, h) := by simp only [biV, e]
theorem bools_map : ∀ bs : List Bool, bools? (bs.map CV.bl) = some bs
  | [] => rfl
  | b :: bs => by simp only [List.map_cons, bools?, bools_map bs, Option.map_some]
theorem b_all {r : Nat} {bs : List Bool} (e : h[r]? = some (.lst (bs.map CV.bl))) : biV .all [.ref r] h = some (.bl (bs.all id), h) := by simp only [biV, rdl_of e, Option.bind_some, bools_map, Option.map_some]
theorem b_any {r : Nat} {bs : List Bool} (e : h[r]? = some (.lst (bs.map CV.bl))) : biV .any [.ref r] h = some (.bl (bs.any id), h) := by simp only [biV, rdl_of e, Option.bind_some, bools_map, Option.map_some]
theorem m_append {r : Nat} {xs : List CV} {v : CV} (e : h[r]? = some (.lst xs)) (hl : xs.length < lim) : meV .append (.ref r) [v] h = some (.non, h.set r (.lst (xs ++ [v]))) := by simp only [meV, e, hl, if_true]
theorem r_append {r : Nat} {xs : List CV} (e : h[r]? = some (.lst xs)) : recvOk .append (.ref r) h = true := by simp only [recvOk, e]
end
end TH

/-! Comprehensions, loops; lists of texts. -/
namespace TH
section
variable {F : Fns} {W : Nat} {s : Env} {h : CH}
theorem compK_of {elt cond : CE} {i : Nat} {src : Src} {acc : List CV} {h' : CH} (hl : src.len h ≤ lim)
    (e : loopGo src (fun x acc h => (testC F cond (s.set i (some x)) h).bind fun b => if b.1 = true then (evalC F elt (s.set i (some x)) b.2).map fun y => (acc ++ [y.1], y.2) else some (acc, b.2)) (src.len h) 0 ([] : List CV) h = some (acc, h')) :
    compK F elt cond i s src h = some (.ref h'.length, h' ++ [.lst acc]) := by
  unfold compK
  rw [if_pos hl, e]
  rfl
theorem comp_map {elt cond : CE} {i : Nat} {src : Src} {xs : List CV} (p : CV → Bool) (f : CV → CV) (hs : ∀ i, src.item h i = some xs[i]?) (hl : src.len h = xs.length) (hm : xs.length ≤ lim)
    (ht : ∀ x ∈ xs, testC F cond (s.set i (some x)) h = some (p x, h)) (he : ∀ x ∈ xs, p x = true → evalC F elt (s.set i (some x)) h = some (f x, h)) :
    compK F elt cond i s src h = some (.ref h.length, h ++ [.lst ((xs.filter p).map f)]) := by
  refine compK_of (by rw [hl]; exact hm) ?_
  rw [hl]
  refine loop_map hs fun x hx acc => ?_
  rw [ht x hx]
  simp only [Option.bind_some]
  by_cases hp : p x = true
  · rw [if_pos hp, if_pos hp, he x hx hp]; rfl
  · rw [if_neg hp, if_neg hp]
theorem comp_all {elt : CE} {i : Nat} {src : Src} {xs : List CV} (f : CV → CV) (hs : ∀ i, src.item h i = some xs[i]?) (hl : src.len h = xs.length) (hm : xs.length ≤ lim)
    (he : ∀ x ∈ xs, evalC F elt (s.set i (some x)) h = some (f x, h)) : compK F elt (.lit (.bl true)) i s src h = some (.ref h.length, h ++ [.lst (xs.map f)]) := by
  rw [comp_map (fun _ => true) f hs hl hm (fun _ _ => t_lit) (fun x hx _ => he x hx), List.filter_eq_self.mpr (fun _ _ => rfl)]
theorem comp_inv {elt cond : CE} {i : Nat} {src : Src} (I : Nat → List CV → CH → Prop) (hn : src.len h ≤ lim) (h0 : I 0 [] h)
    (step : ∀ j acc h', j < src.len h → I j acc h' → ∃ x b h1, src.item h' j = some (some x) ∧ testC F cond (s.set i (some x)) h' = some (b, h1) ∧
      ((b = true ∧ ∃ y h2, evalC F elt (s.set i (some x)) h1 = some (y, h2) ∧ I (j + 1) (acc ++ [y]) h2) ∨ (b = false ∧ I (j + 1) acc h1)))
    (fin : ∀ acc h', I (src.len h) acc h' → src.item h' (src.len h) = some none) : ∃ acc h', compK F elt cond i s src h = some (.ref h'.length, h' ++ [.lst acc]) ∧ I (src.len h) acc h' := by
  obtain ⟨acc, h', e, hi⟩ := loop_inv (body := fun x acc h => (testC F cond (s.set i (some x)) h).bind fun b => if b.1 = true then (evalC F elt (s.set i (some x)) b.2).map fun y => (acc ++ [y.1], y.2) else some (acc, b.2)) (src.len h) I (fun j a h2 hj hi => by
    obtain ⟨x, b, h3, e1, e2, r⟩ := step j a h2 hj hi
    rcases r with ⟨rfl, y, h4, e3, hi'⟩ | ⟨rfl, hi'⟩
    · refine ⟨x, _, h4, e1, ?_, hi'⟩
      simp only [e2, Option.bind_some, if_true, e3, Option.map_some]
    · refine ⟨x, _, h3, e1, ?_, hi'⟩
      simp only [e2, Option.bind_some, Bool.false_eq_true, if_false]) fin (src.len h) 0 [] h (by omega) h0
  exact ⟨acc, h', compK_of hn e, hi⟩
/-- every item, with the heap growing -/
theorem comp_each {elt : CE} {i : Nat} {src : Src} (I : Nat → List CV → CH → Prop) (hn : src.len h ≤ lim) (h0 : I 0 [] h)
    (step : ∀ j acc h', j < src.len h → I j acc h' → ∃ x y h2, src.item h' j = some (some x) ∧ evalC F elt (s.set i (some x)) h' = some (y, h2) ∧ I (j + 1) (acc ++ [y]) h2)
    (fin : ∀ acc h', I (src.len h) acc h' → src.item h' (src.len h) = some none) : ∃ acc h', compK F elt (.lit (.bl true)) i s src h = some (.ref h'.length, h' ++ [.lst acc]) ∧ I (src.len h) acc h' :=
  comp_inv I hn h0 (fun j acc h' hj hi => by
    obtain ⟨x, y, h2, e1, e2, hi'⟩ := step j acc h' hj hi
    exact ⟨x, true, h', e1, t_lit, .inl ⟨rfl, y, h2, e2, hi'⟩⟩) fin
theorem foK_inv {t : CT} {b : CSs} {src : Src} (I : Nat → Env → CH → Prop) (h0 : I 0 s h)
    (step : ∀ j s' h', j < src.len h → I j s' h' → ∃ x s2 h2, src.item h' j = some (some x) ∧ foB F W t b x s' h' = some (.nx, s2, h2) ∧ I (j + 1) s2 h2)
    (fin : ∀ s' h', I (src.len h) s' h' → src.item h' (src.len h) = some none) : ∃ s' h', foK F W t b s src h = some (.nx, s', h') ∧ I (src.len h) s' h' :=
  for_inv (src.len h) I step fin (src.len h) 0 s h (by omega) h0
/-! what is walked -/
theorem src_ints {lo : Int} {n i : Nat} : (Src.ints lo n).item h i = some (if i < n then some (.int (lo + i)) else none) := (rfl)
theorem src_intsL {lo : Int} {n : Nat} : (Src.ints lo n).len h = n := (rfl)
theorem src_tup {xs : List CV} {i : Nat} : (Src.tup xs).item h i = some xs[i]? := (rfl)
theorem src_tupL {xs : List CV} : (Src.tup xs).len h = xs.length := (rfl)
theorem src_cell {r : Nat} {xs : List CV} (e : h[r]? = some (.lst xs)) {i : Nat} : (Src.cell r).item h i = some xs[i]? := by simp only [Src.item, rdl_of e]; rfl
theorem src_cellL {r : Nat} {xs : List CV} (e : h[r]? = some (.lst xs)) : (Src.cell r).len h = xs.length := by simp only [Src.len, rdl_of e]; rfl
theorem src_str {t : List Nat} {i : Nat} : (Src.str t).item h i = some (t.map fun c => CV.str [c])[i]? := by simp only [Src.item, List.getElem?_map]
theorem src_strL {t : List Nat} : (Src.str t).len h = (t.map fun c => CV.str [c]).length := by simp only [Src.len, List.length_map]
/-! lists of texts -/
theorem flat_strs (ks : List (List Nat)) : ∀ x ∈ ks.map CV.str, Flat x := fun x hx => by
  obtain ⟨k, _, rfl⟩ := List.mem_map.mp hx
  exact .str k
theorem eq_strsL {a b : Nat} {ks ls : List (List Nat)} (e1 : h[a]? = some (.lst (ks.map .str))) (e2 : h[b]? = some (.lst (ls.map .str))) : eqV h (.ref a) (.ref b) = some (decide (ks = ls)) := by
  unfold eqV
  rw [show dep = 19 + 1 from rfl, den_flist e1 (flat_strs ks), den_flist e2 (flat_strs ls)]
  simp only [Option.bind_some, ceq, ceqs_refl_strs, Bool.beq_eq_decide_eq]
theorem ceq_str (a b : List Nat) : ceq (.str a) (.str b) = decide (a = b) := by simp only [ceq, Bool.beq_eq_decide_eq]
theorem any_strs (k : List Nat) : ∀ ks : List (List Nat), ((ks.map CV.str).any fun z => ceq z (.str k)) = decide (k ∈ ks)
  | [] => rfl
  | l :: ks => by
    rw [List.map_cons, List.any_cons, any_strs k ks, ceq_str]
    by_cases h1 : l = k
    · subst h1; simp
    · have h2 : ¬ k = l := fun e => h1 e.symm
      simp [h1, h2]
theorem in_strsL {a : Nat} {ks : List (List Nat)} {k : List Nat} (e1 : h[a]? = some (.lst (ks.map .str))) : inV h (.str k) (.ref a) = some (decide (k ∈ ks)) := by
  simp only [inV, e1, den_str, dens_flat (flat_strs ks), Option.bind_some, any_strs]
theorem in_strsT {ks : List (List Nat)} {k : List Nat} : inV h (.str k) (.tup (ks.map .str)) = some (decide (k ∈ ks)) := by
  simp only [inV, den_str, dens_flat (flat_strs ks), Option.bind_some, any_strs]
theorem in_sign {c : Nat} {t : List Nat} : inV h (.str [c]) (.str t) = some (decide (c ∈ t)) := (rfl)
theorem strs_map : ∀ ks : List (List Nat), strs? (ks.map CV.str) = some ks
  | [] => rfl
  | k :: ks => by simp only [List.map_cons, strs?, strs_map ks, Option.map_some]
theorem m_joinL {a : Nat} {t : List Nat} {ks : List (List Nat)} (e1 : h[a]? = some (.lst (ks.map .str))) (hl : (joinS t ks).length + t.length ≤ lim) : meV .join (.str t) [.ref a] h = some (.str (joinS t ks), h) := by
  simp only [meV, items, rdl_of e1, Option.bind_some, strs_map, hl, if_true]
theorem r_join {t : List Nat} : recvOk .join (.str t) h = true := (rfl)
theorem joinS_nil : ∀ ks : List (List Nat), joinS [] ks = ks.flatten
  | [] => rfl
  | [k] => by simp [joinS]
  | k :: l :: ks => by
    rw [joinS, joinS_nil (l :: ks)]
    simp
/-! cuts -/
theorem cut_to {α : Type} (xs : List α) (n : Nat) : cut xs none (some (n : Int)) = xs.take n := by
  unfold cut sIx
  simp only [Int.natCast_nonneg, if_true, List.drop_zero, Nat.sub_zero, Int.toNat_natCast]
  by_cases h : n ≤ xs.length
  · rw [Nat.min_eq_left h]
  · rw [Nat.min_eq_right (by omega), List.take_of_length_le (Nat.le_refl _), List.take_of_length_le (by omega)]
theorem cut_from {α : Type} (xs : List α) (n : Nat) : cut xs (some (n : Int)) none = xs.drop n := by
  unfold cut sIx
  simp only [Int.natCast_nonneg, if_true, Int.toNat_natCast]
  by_cases h : n ≤ xs.length
  · rw [Nat.min_eq_left h, List.take_of_length_le (by simp)]
  · rw [Nat.min_eq_right (by omega), List.drop_eq_nil_of_le (Nat.le_refl _), List.drop_eq_nil_of_le (by omega)]; simp
theorem cut_fromto {α : Type} (xs : List α) (m n : Nat) : cut xs (some (m : Int)) (some (n : Int)) = (xs.take n).drop m := by
  unfold cut sIx
  simp only [Int.natCast_nonneg, if_true, Int.toNat_natCast]
  rw [List.drop_take]
  by_cases h : m ≤ xs.length
  · rw [Nat.min_eq_left h]
    by_cases h2 : n ≤ xs.length
    · rw [Nat.min_eq_left h2]
    · rw [Nat.min_eq_right (by omega), List.take_of_length_le (by simp), List.take_of_length_le (by simp; omega)]
  · rw [Nat.min_eq_right (show xs.length ≤ m by omega), List.drop_eq_nil_of_le (Nat.le_refl xs.length), List.drop_eq_nil_of_le (show xs.length ≤ m by omega)]; simp
theorem atI_nat {α : Type} (xs : List α) (n : Nat) : atI xs (n : Int) = xs[n]? := by
  unfold atI ixN
  simp only [Int.natCast_nonneg, if_true, Int.toNat_natCast]
  by_cases h : n < xs.length
  · rw [if_pos (by omega)]; rfl
  · rw [if_neg (by omega), List.getElem?_eq_none (by omega)]; rfl
theorem atI_int {α : Type} (xs : List α) {i : Int} (h0 : 0 ≤ i) : atI xs i = xs[i.toNat]? := by
  have := atI_nat xs i.toNat
  rwa [Int.toNat_of_nonneg h0] at this
theorem at0 {α : Type} {x : α} {xs : List α} : atI (x :: xs) 0 = some x := by rw [atI_int _ (by decide)]; rfl
theorem at1 {α : Type} {x y : α} {xs : List α} : atI (x :: y :: xs) 1 = some y := by rw [atI_int _ (by decide)]; rfl
theorem at2 {α : Type} {x y z : α} {xs : List α} : atI (x :: y :: z :: xs) 2 = some z := by rw [atI_int _ (by decide)]; rfl
theorem at3 {α : Type} {x y z u : α} {xs : List α} : atI (x :: y :: z :: u :: xs) 3 = some u := by rw [atI_int _ (by decide)]; rfl
end
end TH

/-! Cells by what stands at a place: for a heap whose end is written out. -/
namespace TH
section
variable {h l : CH} {n : Nat}
theorem get_at : (h ++ l)[h.length + n]? = l[n]? := by rw [List.getElem?_append_right (Nat.le_add_right _ _), Nat.add_sub_cancel_left]
theorem get_at0 : (h ++ l)[h.length]? = l[0]? := by rw [List.getElem?_append_right (Nat.le_refl _), Nat.sub_self]
theorem set_at {o : CO} : (h ++ l).set (h.length + n) o = h ++ l.set n o := by rw [List.set_append_right _ _ (Nat.le_add_right _ _), Nat.add_sub_cancel_left]
theorem set_at0 {o : CO} : (h ++ l).set h.length o = h ++ l.set 0 o := by rw [List.set_append_right _ _ (Nat.le_refl _), Nat.sub_self]
def addO (a b : Option CO) (h : CH) : Out := match a, b with
  | some (.lst xs), some (.lst ys) => if xs.length + ys.length ≤ lim then some (.ref h.length, h ++ [.lst (xs ++ ys)]) else none
  | _, _ => none
theorem v_addR {a b : Nat} : binV .add (.ref a) (.ref b) h = addO h[a]? h[b]? h := by simp only [binV]; rfl
theorem addO_ok {xs ys : List CV} (e : xs.length + ys.length ≤ lim) : addO (some (.lst xs)) (some (.lst ys)) h = some (.ref h.length, h ++ [.lst (xs ++ ys)]) := by simp only [addO, e, if_true]
def lenO (a : Option CO) (h : CH) : Out := match a with
  | some (.lst xs) => some (.int xs.length, h)
  | some (.frz xs) => some (.int xs.length, h)
  | some (.dct kvs) => some (.int kvs.length, h)
  | some (.set xs) => some (.int xs.length, h)
  | _ => none
theorem b_lenR {r : Nat} : biV .len [.ref r] h = lenO h[r]? h := by simp only [biV]; rfl
theorem lenO_lst {xs : List CV} : lenO (some (.lst xs)) h = some (.int xs.length, h) := (rfl)
theorem lenO_dct {xs : List (CV × CV)} : lenO (some (.dct xs)) h = some (.int xs.length, h) := (rfl)
def ixO (a : Option CO) (i : Int) : Option CV := match a with
  | some (.lst xs) => atI xs i
  | some (.frz xs) => atI xs i
  | some (.dct kvs) => if kok kvs (.int i) then dget kvs (.int i) else none
  | some (.lkd kvs) => if kok kvs (.int i) && !kvs.isEmpty then dget kvs (.int i) else none
  | _ => none
theorem x_ref {r : Nat} {i : Int} : ixV (.ref r) (.int i) h = ixO h[r]? i := by simp only [ixV]; rfl
theorem ixO_lst {xs : List CV} {i : Int} : ixO (some (.lst xs)) i = atI xs i := (rfl)
def slO (a : Option CO) (lo hi : Option Int) (h : CH) : Out := match a with
  | some (.lst xs) => some (.ref h.length, h ++ [.lst (cut xs lo hi)])
  | some (.frz xs) => some (.ref h.length, h ++ [.lst (cut xs lo hi)])
  | _ => none
theorem sl_ref {r : Nat} {lo hi : Option Int} : slV (.ref r) lo hi h = slO h[r]? lo hi h := by
  simp only [slV, rdl]
  unfold slO
  cases h[r]? with
  | none => rfl
  | some o => cases o <;> rfl
theorem slO_lst {xs : List CV} {lo hi : Option Int} : slO (some (.lst xs)) lo hi h = some (.ref h.length, h ++ [.lst (cut xs lo hi)]) := (rfl)
def setO (a : Option CO) (r : Nat) (i : Int) (v : CV) (h : CH) : Option CH := match a with
  | some (.lst xs) => (ixN xs.length i).map fun j => h.set r (.lst (xs.set j v))
  | some (.dct kvs) => if kok kvs (.int i) && decide (kvs.length < lim) then some (h.set r (.dct (dput kvs (.int i) v))) else none
  | _ => none
theorem set_ref {r : Nat} {i : Int} {v : CV} : setV (.ref r) (.int i) v h = setO h[r]? r i v h := by simp only [setV]; rfl
theorem setO_lst {xs : List CV} {r : Nat} {i : Int} {v : CV} {j : Nat} (e : ixN xs.length i = some j) : setO (some (.lst xs)) r i v h = some (h.set r (.lst (xs.set j v))) := by simp only [setO, e]; rfl
def appO (a : Option CO) (r : Nat) (v : CV) (h : CH) : Out := match a with
  | some (.lst xs) => if xs.length < lim then some (.non, h.set r (.lst (xs ++ [v]))) else none
  | _ => none
theorem m_appR {r : Nat} {v : CV} : meV .append (.ref r) [v] h = appO h[r]? r v h := by simp only [meV]; rfl
theorem appO_lst {xs : List CV} {r : Nat} {v : CV} (e : xs.length < lim) : appO (some (.lst xs)) r v h = some (.non, h.set r (.lst (xs ++ [v]))) := by simp only [appO, e, if_true]
def allO (a : Option CO) (h : CH) : Out := match a with
  | some (.lst xs) => (bools? xs).map fun bs => (.bl (bs.all id), h)
  | some (.frz xs) => (bools? xs).map fun bs => (.bl (bs.all id), h)
  | _ => none
theorem b_allR {r : Nat} : biV .all [.ref r] h = allO h[r]? h := by
  simp only [biV, rdl]
  unfold allO
  cases h[r]? with
  | none => rfl
  | some o => cases o <;> rfl
theorem allO_bls {bs : List Bool} : allO (some (.lst (bs.map .bl))) h = some (.bl (bs.all id), h) := by simp only [allO, bools_map, Option.map_some]
def anyO (a : Option CO) (h : CH) : Out := match a with
  | some (.lst xs) => (bools? xs).map fun bs => (.bl (bs.any id), h)
  | some (.frz xs) => (bools? xs).map fun bs => (.bl (bs.any id), h)
  | _ => none
theorem b_anyR {r : Nat} : biV .any [.ref r] h = anyO h[r]? h := by
  simp only [biV, rdl]
  unfold anyO
  cases h[r]? with
  | none => rfl
  | some o => cases o <;> rfl
theorem anyO_bls {bs : List Bool} : anyO (some (.lst (bs.map .bl))) h = some (.bl (bs.any id), h) := by simp only [anyO, bools_map, Option.map_some]
theorem b_listT {xs : List CV} : biV .list [.tup xs] h = some (.ref h.length, h ++ [.lst xs]) := (rfl)
def vO (a : Option CO) (r : Nat) (h : CH) : Option (Src × CH) := match a with
  | some (.lst _) => some (.cell r, h)
  | some (.frz _) => some (.cell r, h)
  | _ => none
theorem vK_ref {r : Nat} : vK (.ref r) h = vO h[r]? r h := by unfold vK srcOf; rfl
theorem vO_lst {xs : List CV} {r : Nat} : vO (some (.lst xs)) r h = some (.cell r, h) := (rfl)
theorem v_mulT {xs : List CV} {k : Int} (e : 2 ≤ k ∧ k ≤ 1000 ∧ xs ≠ [] ∧ xs.length ≤ 1000) : binV .mul (.tup xs) (.int k) h = some (.tup (List.replicate k.toNat xs).flatten, h) := by simp only [binV, e, if_true, and_self, ne_eq, not_false_eq_true]
def recO (a : Option CO) : Bool := match a with
  | some (.lst _) => true
  | _ => false
def when {α : Type} (b : Bool) (a : Option α) : Option α := if b = true then a else none
theorem when_t {α : Type} {a : Option α} : when true a = a := (rfl)
theorem recO_lst {xs : List CV} : recO (some (.lst xs)) = true := (rfl)
theorem me1_app {F : Fns} {es : CEs} {s : Env} {r : Nat} : me1 F .append es s (.ref r) h = when (recO h[r]?) (bindL (evalCs F es s h) (meV .append (.ref r))) := by
  unfold me1 when recvOk recO
  rfl
end
end TH

/-! Plain data; tuple targets; loops over what stays; while. -/
namespace TH
/- no lists, no truths -/
mutual
def pl : Nat → CV → Bool
  | _, .non => true
  | _, .int _ => true
  | _, .str _ => true
  | n + 1, .tup xs => pls n xs
  | _, _ => false
def pls : Nat → List CV → Bool
  | _, [] => true
  | n, x :: xs => pl n x && pls n xs
end
theorem pls_iff {n : Nat} : ∀ {xs : List CV}, pls n xs = true ↔ ∀ x ∈ xs, pl n x = true
  | [] => by cases n <;> simp [pls]
  | x :: xs => by
    have ih := pls_iff (n := n) (xs := xs)
    cases n <;> simp only [pls, Bool.and_eq_true, List.mem_cons, forall_eq_or_imp, ih]
mutual
theorem pl_up : ∀ (n m : Nat) (v : CV), n ≤ m → pl n v = true → pl m v = true
  | n, m, .non, _, _ => by cases m <;> simp only [pl]
  | n, m, .int _, _, _ => by cases m <;> simp only [pl]
  | n, m, .str _, _, _ => by cases m <;> simp only [pl]
  | n, m, .bl _, _, e => by cases n <;> simp [pl] at e
  | n, m, .lst _, _, e => by cases n <;> simp [pl] at e
  | n, m, .ref _, _, e => by cases n <;> simp [pl] at e
  | 0, m, .tup _, _, e => by simp [pl] at e
  | n + 1, 0, .tup _, h, e => by omega
  | n + 1, m + 1, .tup xs, h, e => by
    simp only [pl] at e ⊢
    exact pls_up n m xs (by omega) e
theorem pls_up : ∀ (n m : Nat) (v : List CV), n ≤ m → pls n v = true → pls m v = true
  | n, m, [], _, _ => by cases m <;> simp only [pls]
  | n, m, x :: xs, h, e => by
    have e' : pl n x = true ∧ pls n xs = true := by cases n <;> simpa only [pls, Bool.and_eq_true] using e
    have := pl_up n m x h e'.1
    have := pls_up n m xs h e'.2
    cases m <;> simp only [pls, Bool.and_eq_true] <;> exact ⟨‹_›, ‹_›⟩
end
mutual
theorem den_pl (h : CH) : ∀ (n : Nat) (v : CV), pl n v = true → den h n v = some v
  | n, .non, _ => den_non ..
  | n, .int _, _ => den_int ..
  | n, .str _, _ => den_str ..
  | n, .bl _, e => by cases n <;> simp [pl] at e
  | n, .lst _, e => by cases n <;> simp [pl] at e
  | n, .ref _, e => by cases n <;> simp [pl] at e
  | 0, .tup _, e => by simp [pl] at e
  | n + 1, .tup xs, e => by
    simp only [pl] at e
    simp only [den, dens_pl h n xs e, Option.map_some]
theorem dens_pl (h : CH) : ∀ (n : Nat) (v : List CV), pls n v = true → dens h n v = some v
  | n, [], _ => dens_nil ..
  | n, x :: xs, e => by
    have e' : pl n x = true ∧ pls n xs = true := by cases n <;> simpa only [pls, Bool.and_eq_true] using e
    rw [dens_cons, den_pl h n x e'.1, dens_pl h n xs e'.2]
    rfl
end
mutual
theorem ceq_pl : ∀ (n m : Nat) (a b : CV), pl n a = true → pl m b = true → ceq a b = decide (a = b)
  | n, m, .non, b, _, hb => by cases b <;> first | rfl | (cases m <;> simp [pl] at hb)
  | n, m, .int i, b, _, hb => by
    cases b with
    | int j => simp only [ceq, CV.int.injEq, Bool.beq_eq_decide_eq]
    | bl _ => cases m <;> simp [pl] at hb
    | _ => simp [ceq]
  | n, m, .str s, b, _, hb => by
    cases b with
    | str t => simp only [ceq, CV.str.injEq, Bool.beq_eq_decide_eq]
    | _ => simp [ceq]
  | n, m, .bl _, b, ha, _ => by cases n <;> simp [pl] at ha
  | n, m, .lst _, b, ha, _ => by cases n <;> simp [pl] at ha
  | n, m, .ref _, b, ha, _ => by cases n <;> simp [pl] at ha
  | 0, m, .tup _, b, ha, _ => by simp [pl] at ha
  | n + 1, m, .tup xs, b, ha, hb => by
    cases b with
    | tup ys =>
      cases m with
      | zero => simp [pl] at hb
      | succ m =>
        simp only [pl] at ha hb
        simp only [ceq, CV.tup.injEq]
        exact ceqs_pl n m xs ys ha hb
    | _ => simp [ceq]
theorem ceqs_pl : ∀ (n m : Nat) (a b : List CV), pls n a = true → pls m b = true → ceqs a b = decide (a = b)
  | n, m, [], [], _, _ => rfl
  | n, m, [], _ :: _, _, _ => rfl
  | n, m, _ :: _, [], _, _ => rfl
  | n, m, x :: xs, y :: ys, ha, hb => by
    have ea : pl n x = true ∧ pls n xs = true := by cases n <;> simpa only [pls, Bool.and_eq_true] using ha
    have eb : pl m y = true ∧ pls m ys = true := by cases m <;> simpa only [pls, Bool.and_eq_true] using hb
    simp only [ceqs, List.cons.injEq, ceq_pl n m x y ea.1 eb.1, ceqs_pl n m xs ys ea.2 eb.2, Bool.decide_and]
end
section
variable {h : CH}
theorem eqV_pl {a b : CV} (ha : pl 19 a = true) (hb : pl 19 b = true) : eqV h a b = some (decide (a = b)) := by
  unfold eqV
  rw [show dep = 19 + 1 from rfl, den_pl h 20 a (pl_up 19 20 a (by omega) ha), den_pl h 20 b (pl_up 19 20 b (by omega) hb)]
  simp only [Option.bind_some, ceq_pl 19 19 a b ha hb]
theorem eqV_plL {a b : Nat} {xs ys : List CV} (e1 : h[a]? = some (.lst xs)) (e2 : h[b]? = some (.lst ys)) (hx : pls 18 xs = true) (hy : pls 18 ys = true) : eqV h (.ref a) (.ref b) = some (decide (xs = ys)) := by
  unfold eqV
  rw [show dep = 19 + 1 from rfl]
  simp only [den, e1, e2, dens_pl h 19 xs (pls_up 18 19 xs (by omega) hx), dens_pl h 19 ys (pls_up 18 19 ys (by omega) hy), Option.map_some, Option.bind_some, ceq, ceqs_pl 18 18 xs ys hx hy]
theorem any_pl {x : CV} {n m : Nat} (hx : pl n x = true) : ∀ {zs : List CV}, pls m zs = true → (zs.any fun z => ceq z x) = decide (x ∈ zs)
  | [], _ => rfl
  | z :: zs, e => by
    have e' : pl m z = true ∧ pls m zs = true := by cases m <;> simpa only [pls, Bool.and_eq_true] using e
    rw [List.any_cons, any_pl hx e'.2, ceq_pl m n z x e'.1 hx]
    by_cases h1 : z = x
    · subst h1; simp
    · have h2 : ¬ x = z := fun e => h1 e.symm
      simp [h1, h2]
theorem inV_plT {x : CV} {zs : List CV} (hx : pl 19 x = true) (hz : pls 19 zs = true) : inV h x (.tup zs) = some (decide (x ∈ zs)) := by
  simp only [inV, show dep = 19 + 1 from rfl, den_pl h 20 x (pl_up 19 20 x (by omega) hx), dens_pl h 20 zs (pls_up 19 20 zs (by omega) hz), Option.bind_some, any_pl hx hz]
theorem inV_plL {x : CV} {r : Nat} {zs : List CV} (e : h[r]? = some (.lst zs)) (hx : pl 19 x = true) (hz : pls 19 zs = true) : inV h x (.ref r) = some (decide (x ∈ zs)) := by
  simp only [inV, e, show dep = 19 + 1 from rfl, den_pl h 20 x (pl_up 19 20 x (by omega) hx), dens_pl h 20 zs (pls_up 19 20 zs (by omega) hz), Option.bind_some, any_pl hx hz]
/-! tuple targets -/
def tupS (o : Option Env) (h : CH) : SOut := match o with
  | some s => some (.nx, s, h)
  | none => none
theorem tupS_some {s : Env} : tupS (some s) h = some (.nx, s, h) := (rfl)
theorem setN_nil {s : Env} : setN s [] [] = some s := (rfl)
theorem setN_cons {s : Env} {i : Nat} {is : List Nat} {x : CV} {xs : List CV} : setN s (i :: is) (x :: xs) = setN (s.set i (some x)) is xs := (rfl)
variable {F : Fns} {W : Nat} {s : Env}
theorem asgK_tupS {is : List Nat} {xs : List CV} : asgK F (.tup is) s (.tup xs) h = tupS (setN s is xs) h := by
  unfold asgK tupS
  simp only [asgC]
  cases setN s is xs <;> rfl
def bindS (o : Option Env) (k : Env → SOut) : SOut := match o with
  | some s => k s
  | none => none
theorem bindS_some {k : Env → SOut} : bindS (some s) k = k s := (rfl)
theorem foB_tupS {is : List Nat} {b : CSs} {xs : List CV} : foB F W (.tup is) b (.tup xs) s h = bindS (setN s is xs) (fun s' => execCs F W b s' h) := by
  unfold foB bindS
  simp only [asgC]
  cases setN s is xs <;> rfl
/-! loops over what stays -/
def forL (body : CV → Env → CH → SOut) : List CV → Env → CH → SOut
  | [] => fun s h => some (.nx, s, h)
  | x :: xs => fun s h => seqC (body x s h) (forL body xs)
theorem forL_nil {body : CV → Env → CH → SOut} : forL body [] s h = some (.nx, s, h) := (rfl)
theorem forL_cons {body : CV → Env → CH → SOut} {x : CV} {xs : List CV} : forL body (x :: xs) s h = seqC (body x s h) (forL body xs) := (rfl)
theorem forGo_forL {src : Src} {body : CV → Env → CH → SOut} {xs : List CV} (hs : ∀ h i, src.item h i = some xs[i]?) : ∀ (k i : Nat) (s : Env) (h : CH), i + k = xs.length → forGo src body k i s h = forL body (xs.drop i) s h
  | 0, i, s, h, e => by
    unfold forGo
    rw [hs, List.getElem?_eq_none (by omega), List.drop_eq_nil_of_le (by omega)]
    rfl
  | k + 1, i, s, h, e => by
    have hl : i < xs.length := by omega
    unfold forGo
    rw [hs, List.getElem?_eq_getElem hl, List.drop_eq_getElem_cons hl, forL_cons]
    simp only []
    cases hb : body xs[i] s h with
    | none => rfl
    | some p =>
      obtain ⟨f, s', h'⟩ := p
      cases f with
      | nx => exact forGo_forL hs k (i + 1) s' h' (by omega)
      | rt v => rfl
theorem foK_tup {t : CT} {b : CSs} {xs : List CV} : foK F W t b s (.tup xs) h = forL (foB F W t b) xs s h := by
  unfold foK
  rw [forGo_forL (xs := xs) (fun h i => src_tup) _ 0 s h (by simp [src_tupL])]
  rfl
theorem foK_str {t : CT} {b : CSs} {cs : List Nat} : foK F W t b s (.str cs) h = forL (foB F W t b) (cs.map fun c => .str [c]) s h := by
  unfold foK
  rw [forGo_forL (xs := cs.map fun c => .str [c]) (fun h i => src_str) _ 0 s h (by rw [src_strL]; simp)]
  rfl
/-- over what stays, by the items -/
theorem forL_inv {body : CV → Env → CH → SOut} {xs : List CV} (I : List CV → Env → CH → Prop) (step : ∀ pre x post s h, xs = pre ++ x :: post → I pre s h → ∃ s' h', body x s h = some (.nx, s', h') ∧ I (pre ++ [x]) s' h') :
    ∀ (post pre : List CV) (s : Env) (h : CH), xs = pre ++ post → I pre s h → ∃ s' h', forL body post s h = some (.nx, s', h') ∧ I xs s' h'
  | [], pre, s, h, e, hi => ⟨s, h, rfl, by rw [e, List.append_nil]; exact hi⟩
  | x :: post, pre, s, h, e, hi => by
    obtain ⟨s1, h1, e1, i1⟩ := step pre x post s h e hi
    obtain ⟨s2, h2, e2, i2⟩ := forL_inv I step post (pre ++ [x]) s1 h1 (by rw [e]; simp) i1
    exact ⟨s2, h2, by rw [forL_cons, e1, seqC_nx]; exact e2, i2⟩
/-! while -/
theorem wh_inv {test : Env → CH → Option (Bool × CH)} {body : Env → CH → Option (Fl × Env × CH)} (I : Nat → Env → CH → Prop) (P : Env → CH → Prop)
    (step : ∀ k s h, I k s h → (∃ h1, test s h = some (false, h1) ∧ P s h1) ∨ (∃ h1 s2 h2 k2, test s h = some (true, h1) ∧ body s h1 = some (.nx, s2, h2) ∧ k2 < k ∧ I k2 s2 h2)) :
    ∀ (n k : Nat) (s : Env) (h : CH), I k s h → k < n → ∃ s' h', whGo test body n s h = some (.nx, s', h') ∧ P s' h'
  | 0, k, s, h, _, hk => by omega
  | n + 1, k, s, h, hi, hk => by
    rcases step k s h hi with ⟨h1, e, p⟩ | ⟨h1, s2, h2, k2, e1, e2, hk2, i2⟩
    · exact ⟨s, h1, by unfold whGo; simp only [e], p⟩
    · obtain ⟨s', h', e3, p⟩ := wh_inv I P step n k2 s2 h2 i2 (by omega)
      exact ⟨s', h', by unfold whGo; simp only [e1, e2]; exact e3, p⟩
end
/-! texts parted -/
theorem partS_at {c : Nat} {y : List Nat} : ∀ {x acc : List Nat}, c ∉ x → partS [c] acc (x ++ c :: y) = some (acc ++ x, y)
  | [], acc, _ => by simp [partS, isPre]
  | d :: x, acc, hc => by
    have h1 : d ≠ c := fun e => hc (by rw [e]; exact List.mem_cons_self)
    have h2 : c ∉ x := fun z => hc (List.mem_cons_of_mem _ z)
    rw [List.cons_append, partS]
    rw [if_neg (by simp [isPre, h1]), partS_at h2]
    simp
theorem partS_no {c : Nat} : ∀ {x acc : List Nat}, c ∉ x → partS [c] acc x = none
  | [], acc, _ => by simp [partS, isPre]
  | d :: x, acc, hc => by
    have h1 : d ≠ c := fun e => hc (by rw [e]; exact List.mem_cons_self)
    have h2 : c ∉ x := fun z => hc (List.mem_cons_of_mem _ z)
    rw [partS]
    rw [if_neg (by simp [isPre, h1]), partS_no h2]
theorem m_part_at {h : CH} {c : Nat} {x y : List Nat} (hc : c ∉ x) (hl : (x ++ c :: y).length ≤ lim) : meV .partition (.str (x ++ c :: y)) [.str [c]] h = some (.tup [.str x, .str [c], .str y], h) := by
  simp only [meV, hl, if_true, partS_at hc, List.nil_append]
theorem m_part_no {h : CH} {c : Nat} {x : List Nat} (hc : c ∉ x) (hl : x.length ≤ lim) : meV .partition (.str x) [.str [c]] h = some (.tup [.str x, .str [], .str []], h) := by
  simp only [meV, hl, if_true, partS_no hc]
theorem r_part {h : CH} {t : List Nat} : recvOk .partition (.str t) h = true := (rfl)
theorem r_split {h : CH} {t : List Nat} : recvOk .split (.str t) h = true := (rfl)
theorem splitC_no {c : Nat} : ∀ {x : List Nat}, c ∉ x → splitC c x = [x]
  | [], _ => rfl
  | d :: x, hc => by
    have h1 : d ≠ c := fun e => hc (by rw [e]; exact List.mem_cons_self)
    rw [splitC, if_neg h1, splitC_no fun z => hc (List.mem_cons_of_mem _ z)]
theorem splitC_at {c : Nat} {y : List Nat} : ∀ {x : List Nat}, c ∉ x → splitC c (x ++ c :: y) = x :: splitC c y
  | [], _ => by rw [List.nil_append, splitC, if_pos rfl]
  | d :: x, hc => by
    have h1 : d ≠ c := fun e => hc (by rw [e]; exact List.mem_cons_self)
    rw [List.cons_append, splitC, if_neg h1, splitC_at fun z => hc (List.mem_cons_of_mem _ z)]
theorem splitC_join {c : Nat} : ∀ {ps : List (List Nat)}, ps ≠ [] → (∀ p ∈ ps, c ∉ p) → splitC c (joinS [c] ps) = ps
  | [], h, _ => absurd rfl h
  | [p], _, hp => by rw [joinS]; exact splitC_no (hp p (by simp))
  | p :: q :: ps, _, hp => by
    rw [joinS, List.append_assoc, List.singleton_append, splitC_at (hp p (by simp)), splitC_join (by simp) fun r hr => hp r (List.mem_cons_of_mem _ hr)]
theorem m_split {h : CH} {c : Nat} {t : List Nat} (hl : t.length + 2 ≤ lim ∧ c < 256) : meV .split (.str t) [.str [c]] h = some (.ref h.length, h ++ [.lst ((splitC c t).map .str)]) := by
  simp only [meV, hl, and_self, if_true]
  rfl
end TH

/-! Dicts by what they answer. -/
namespace TH
/-- all keys of one kind: tuples of texts and numbers -/
def TK (kvs : List (CV × CV)) : Prop := ∀ p ∈ kvs, tupK p.1 = true
/-- texts, numbers -/
def LK (kvs : List (CV × CV)) : Prop := ∀ p ∈ kvs, leafK p.1 = true
theorem kok_tk {kvs : List (CV × CV)} {k : CV} (t : TK kvs) (hk : tupK k = true) : kok kvs k = true := by
  unfold kok keysOk
  rw [Bool.or_eq_true]
  right
  rw [List.all_eq_true]
  intro x hx
  rcases List.mem_cons.mp hx with rfl | hx
  · exact hk
  · obtain ⟨p, hp, rfl⟩ := List.mem_map.mp hx
    exact t p hp
theorem kok_lk {kvs : List (CV × CV)} {k : CV} (t : LK kvs) (hk : leafK k = true) : kok kvs k = true := by
  unfold kok keysOk
  rw [Bool.or_eq_true]
  left
  rw [List.all_eq_true]
  intro x hx
  rcases List.mem_cons.mp hx with rfl | hx
  · exact hk
  · obtain ⟨p, hp, rfl⟩ := List.mem_map.mp hx
    exact t p hp
theorem dput_keys {kvs : List (CV × CV)} {k v : CV} : (dput kvs k v).map (·.1) = if k ∈ kvs.map (·.1) then kvs.map (·.1) else kvs.map (·.1) ++ [k] := by
  unfold dput
  by_cases h : k ∈ kvs.map (·.1)
  · rw [if_pos h, if_pos (by
      obtain ⟨p, hp, e⟩ := List.mem_map.mp h
      rw [List.any_eq_true]
      exact ⟨p, hp, decide_eq_true e⟩), List.map_map]
    refine List.map_congr_left fun p hp => ?_
    simp only [Function.comp]
    split
    · rename_i e; exact e.symm ▸ rfl
    · rfl
  · rw [if_neg h, if_neg (by
      rw [List.any_eq_true]
      rintro ⟨p, hp, e⟩
      exact h (List.mem_map.mpr ⟨p, hp, of_decide_eq_true e⟩)), List.map_append]
    rfl
theorem TK.put {kvs : List (CV × CV)} {k v : CV} (t : TK kvs) (hk : tupK k = true) : TK (dput kvs k v) := by
  intro p hp
  have h : p.1 ∈ (dput kvs k v).map (·.1) := List.mem_map.mpr ⟨p, hp, rfl⟩
  rw [dput_keys] at h
  have h2 : p.1 ∈ kvs.map (·.1) ∨ p.1 = k := by
    split at h
    · exact .inl h
    · rcases List.mem_append.mp h with h | h
      · exact .inl h
      · exact .inr (List.mem_singleton.mp h)
  rcases h2 with h | h
  · obtain ⟨q, hq, e⟩ := List.mem_map.mp h
    rw [← e]; exact t q hq
  · rw [h]; exact hk
theorem LK.put {kvs : List (CV × CV)} {k v : CV} (t : LK kvs) (hk : leafK k = true) : LK (dput kvs k v) := by
  intro p hp
  have h : p.1 ∈ (dput kvs k v).map (·.1) := List.mem_map.mpr ⟨p, hp, rfl⟩
  rw [dput_keys] at h
  have h2 : p.1 ∈ kvs.map (·.1) ∨ p.1 = k := by
    split at h
    · exact .inl h
    · rcases List.mem_append.mp h with h | h
      · exact .inl h
      · exact .inr (List.mem_singleton.mp h)
  rcases h2 with h | h
  · obtain ⟨q, hq, e⟩ := List.mem_map.mp h
    rw [← e]; exact t q hq
  · rw [h]; exact hk
theorem dput_len {kvs : List (CV × CV)} {k v : CV} : (dput kvs k v).length ≤ kvs.length + 1 := by
  unfold dput
  split <;> simp
theorem dget_nil {k : CV} : dget [] k = none := by simp [dget]
theorem find_map {k j v : CV} (hjk : j ≠ k) : ∀ kvs : List (CV × CV), ((kvs.map fun kv => if kv.1 = k then (kv.1, v) else kv).find? fun kv => decide (kv.1 = j)).map (·.2) = (kvs.find? fun kv => decide (kv.1 = j)).map (·.2)
  | [] => rfl
  | p :: r => by
    rw [List.map_cons, List.find?_cons, List.find?_cons]
    by_cases h : p.1 = k
    · have : ¬ p.1 = j := fun e => hjk (e.symm.trans h)
      simp only [h, if_true] at this ⊢
      simp only [show ¬ k = j from fun e => hjk e.symm, decide_false]
      exact find_map hjk r
    · simp only [h, if_false]
      cases decide (p.1 = j) with
      | true => rfl
      | false => exact find_map hjk r
theorem find_self {k v : CV} : ∀ kvs : List (CV × CV), (kvs.any fun kv => decide (kv.1 = k)) = true → ((kvs.map fun kv => if kv.1 = k then (kv.1, v) else kv).find? fun kv => decide (kv.1 = k)).map (·.2) = some v
  | [], h => by simp at h
  | p :: r, h => by
    rw [List.map_cons, List.find?_cons]
    by_cases hp : p.1 = k
    · simp [hp]
    · simp only [hp, if_false, decide_false]
      rw [List.any_cons] at h
      simp only [hp, decide_false, Bool.false_or] at h
      exact find_self r h
/-- what is put is got -/
theorem dget_put {kvs : List (CV × CV)} {k v j : CV} : dget (dput kvs k v) j = if j = k then some v else dget kvs j := by
  unfold dget dput
  by_cases h : (kvs.any fun kv => decide (kv.1 = k)) = true
  · rw [if_pos h]
    by_cases hj : j = k
    · subst hj
      rw [if_pos rfl]; exact find_self kvs h
    · rw [if_neg hj]; exact find_map hj kvs
  · rw [if_neg h, List.find?_append]
    by_cases hj : j = k
    · subst hj
      rw [if_pos rfl]
      have : (kvs.find? fun kv => decide (kv.1 = j)) = none := by
        rw [List.find?_eq_none]
        intro p hp z
        exact h (List.any_eq_true.mpr ⟨p, hp, z⟩)
      rw [this]
      simp
    · rw [if_neg hj]
      have : ¬ k = j := fun e => hj e.symm
      cases kvs.find? fun kv => decide (kv.1 = j) <;> simp [this]
/-- the keys stand once -/
theorem dput_nodup {kvs : List (CV × CV)} {k v : CV} (nd : (kvs.map (·.1)).Nodup) : ((dput kvs k v).map (·.1)).Nodup := by
  rw [dput_keys]
  split
  · exact nd
  · rename_i h
    rw [List.nodup_append]
    exact ⟨nd, by simp, fun a ha b hb e => h (by rw [List.mem_singleton.mp hb] at e; rw [← e]; exact ha)⟩
section
variable {h : CH}
def getO (a : Option CO) (k d : CV) (h : CH) : Out := match a with
  | some (.dct kvs) => if kok kvs k then some ((dget kvs k).getD d, h) else none
  | some (.lkd kvs) => if kok kvs k && !kvs.isEmpty then some ((dget kvs k).getD d, h) else none
  | _ => none
theorem m_getR {r : Nat} {k d : CV} : meV .get (.ref r) [k, d] h = getO h[r]? k d h := by simp only [meV]; rfl
theorem getO_dct {kvs : List (CV × CV)} {k d : CV} (e : kok kvs k = true) : getO (some (.dct kvs)) k d h = some ((dget kvs k).getD d, h) := by simp only [getO, e, if_true]
theorem r_get {r : Nat} {kvs : List (CV × CV)} (e : h[r]? = some (.dct kvs)) : recvOk .get (.ref r) h = true := by simp only [recvOk, e]
theorem r_setd {r : Nat} {kvs : List (CV × CV)} (e : h[r]? = some (.dct kvs)) : recvOk .setdefault (.ref r) h = true := by simp only [recvOk, e]
theorem r_remove {r : Nat} {xs : List CV} (e : h[r]? = some (.lst xs)) : recvOk .remove (.ref r) h = true := by simp only [recvOk, e]
theorem r_index {r : Nat} {xs : List CV} (e : h[r]? = some (.lst xs)) : recvOk .index (.ref r) h = true := by simp only [recvOk, e]
theorem r_pop {r : Nat} {xs : List CV} (e : h[r]? = some (.lst xs)) : recvOk .pop (.ref r) h = true := by simp only [recvOk, e]
theorem r_count {r : Nat} {xs : List CV} (e : h[r]? = some (.lst xs)) : recvOk .count (.ref r) h = true := by simp only [recvOk, e]
/-- d[k] = v, k a tuple or a text -/
theorem set_dct {r : Nat} {kvs : List (CV × CV)} {k v : CV} (e : h[r]? = some (.dct kvs)) (e2 : kok kvs k = true) (hl : kvs.length < lim) : setV (.ref r) k v h = some (h.set r (.dct (dput kvs k v))) := by
  have e3 : (kok kvs k && decide (kvs.length < lim)) = true := by rw [e2, decide_eq_true hl]; rfl
  simp only [setV, e, e3, if_true]
theorem x_dct {r : Nat} {kvs : List (CV × CV)} {k : CV} (e : h[r]? = some (.dct kvs)) (e2 : kok kvs k = true) : ixV (.ref r) k h = dget kvs k := by
  unfold ixV
  split
  · simp only [e, e2, if_true]
  · simp only [e, e2, if_true]
theorem in_dct {r : Nat} {kvs : List (CV × CV)} {k : CV} (e : h[r]? = some (.dct kvs)) (e2 : kok kvs k = true) : inV h k (.ref r) = some (dget kvs k).isSome := by
  simp only [inV, e, e2, if_true]
/-- the place of a thing in a list of plain data -/
theorem eqFst_pl {x : CV} {xs : List CV} (hx : pl 19 x = true) (hxs : pls 19 xs = true) : eqFst h x xs = some (xs.findIdx? fun z => decide (z = x)) := by
  unfold eqFst
  rw [show dep = 19 + 1 from rfl, den_pl h 20 x (pl_up 19 20 x (by omega) hx), dens_pl h 20 xs (pls_up 19 20 xs (by omega) hxs)]
  simp only [Option.bind_some, Option.some.injEq]
  have key : ∀ xs : List CV, pls 19 xs = true → xs.findIdx? (fun z => ceq z x) = xs.findIdx? fun z => decide (z = x) := by
    intro xs
    induction xs with
    | nil => intro _; rfl
    | cons z zs ih =>
      intro e
      simp only [pls, Bool.and_eq_true] at e
      simp only [List.findIdx?_cons, ceq_pl 19 19 z x e.1 hx, ih e.2]
  exact key xs hxs
/-- what is there has a place -/
theorem find_place {x : CV} : ∀ {xs : List CV}, x ∈ xs → ∃ j, xs.findIdx? (fun z => decide (z = x)) = some j ∧ xs[j]? = some x
  | [], h => nomatch h
  | z :: zs, h => by
    rw [List.findIdx?_cons]
    by_cases e : z = x
    · exact ⟨0, by simp [e], by simp [e]⟩
    · obtain ⟨j, h1, h2⟩ := find_place (xs := zs) (by
        rcases List.mem_cons.mp h with h | h
        · exact absurd h.symm e
        · exact h)
      exact ⟨j + 1, by simp [e, h1], by simpa using h2⟩
theorem m_remove {r j : Nat} {x : CV} {xs : List CV} (e : h[r]? = some (.lst xs)) (hx : pl 19 x = true) (hxs : pls 19 xs = true) (hj : xs.findIdx? (fun z => decide (z = x)) = some j) : meV .remove (.ref r) [x] h = some (.non, h.set r (.lst (xs.eraseIdx j))) := by
  simp only [meV, e, eqFst_pl hx hxs, hj, Option.bind_some, Option.map_some]
theorem m_pop {r j : Nat} {i : Int} {x : CV} {xs : List CV} (e : h[r]? = some (.lst xs)) (e1 : ixN xs.length i = some j) (e2 : xs[j]? = some x) : meV .pop (.ref r) [.int i] h = some (x, h.set r (.lst (xs.eraseIdx j))) := by
  simp only [meV, e, e1, Option.bind_some, e2, Option.map_some]
theorem v_mulS {s : List Nat} {k : Int} (e : k < 2 ^ 62 ∧ -(2 ^ 62) < k ∧ s.length * k.toNat ≤ lim) : binV .mul (.str s) (.int k) h = some (.str (repS s k.toNat), h) := by simp only [binV, e, and_self, if_true]
theorem b_max2 {i j : Int} : biV .max2 [.int i, .int j] h = some (.int (if j > i then j else i), h) := rfl
theorem b_min2 {i j : Int} : biV .min2 [.int i, .int j] h = some (.int (if j < i then j else i), h) := rfl
theorem b_intB {b : Bool} : biV .int [.bl b] h = some (.int (if b = true then 1 else 0), h) := rfl
theorem b_divmod {i j : Int} (e : 0 < j ∧ j < 1073741824) : biV .divmod [.int i, .int j] h = some (.tup [.int (i / j), .int (i % j)], h) := by simp only [biV, e, and_self, if_true]
theorem b_tupT {xs : List CV} : biV .tuple [.tup xs] h = some (.tup xs, h) := by simp only [biV, items, Option.map_some]
variable {F : Fns} {s : Env}
/-- a[i], x = .. -/
theorem asgK_subnm {o i : CE} {n r k : Nat} {y z : CV} {xs : List CV} {iv : Int} (e1 : evalC F o s h = some (.ref r, h)) (e2 : evalC F i s h = some (.int iv, h)) (e3 : h[r]? = some (.lst xs)) (e4 : ixN xs.length iv = some k) :
    asgK F (.subnm o i n) s (.tup [y, z]) h = some (.nx, s.set n (some z), h.set r (.lst (xs.set k y))) := by
  unfold asgK
  simp only [asgC, e1, Option.bind_some, e2, set_lst e3 e4, Option.map_some]
  rfl
theorem b_int60 {i j : Int} (e : bitsOk i j = true) : (b64 i || b64 j || bitsOk i j) = true := by rw [e, Bool.or_true]
theorem v_mulB {i j : Int} (e : bitsOk i j = true) : binV .mul (.int i) (.int j) h = some (.int (i * j), h) := by simp only [binV, e, Bool.or_true, if_true]
theorem bits_of {i j : Int} {a b : Nat} (hi : i.natAbs < 2 ^ a) (hj : j.natAbs < 2 ^ b) (h : a + b + 2 ≤ 134217728) : bitsOk i j = true := by
  have lg : ∀ {n m : Nat}, n < 2 ^ m → n.log2 ≤ m := fun {n m} hn => by
    by_cases h0 : n = 0
    · subst h0; exact Nat.zero_le _
    · exact Nat.le_of_lt ((Nat.log2_lt h0).mpr hn)
  have := lg hi
  have := lg hj
  unfold bitsOk
  rw [decide_eq_true_eq]
  omega
end
end TH

/-! Comprehensions over a dict's names; sorted; comprehensions over numbers. -/
namespace TH
section
variable {F : Fns} {s : Env} {h : CH}
theorem compD_keys {elt cond : CE} {i d r : Nat} {kvs : List (CV × CV)} (p : CV × CV → Bool) (f : CV × CV → CV) (hd : s[d]? = some (some (.ref r))) (g : h[r]? = some (.dct kvs))
    (step : ∀ (kv : CV × CV) (h' : CH), kv ∈ kvs → Off [] (h.set r (.lkd kvs)) h' → ∃ h1, testC F cond (s.set i (some kv.1)) h' = some (p kv, h1) ∧ Off [] h' h1 ∧ (p kv = true → ∃ h2, evalC F elt (s.set i (some kv.1)) h1 = some (f kv, h2) ∧ Off [] h1 h2)) :
    ∃ h', evalC F (.compD elt i false d cond) s h = some (.ref h'.length, h' ++ [.lst ((kvs.filter p).map f)]) ∧ Off [] h h' := by
  have hr := lt_of g
  have hlk : lockC h r = some (h.set r (.lkd kvs)) := by unfold lockC; rw [g]
  have g1 : (h.set r (.lkd kvs))[r]? = some (.lkd kvs) := List.getElem?_set_self hr
  have hln : (Src.keys r).len (h.set r (.lkd kvs)) = kvs.length := by simp only [Src.len, g1]
  obtain ⟨acc, h', e, ea, o⟩ := loop_inv (src := .keys r) (body := fun x acc h => (testC F cond (s.set i (some x)) h).bind fun b => if b.1 = true then (evalC F elt (s.set i (some x)) b.2).map fun y => (acc ++ [y.1], y.2) else some (acc, b.2)) kvs.length
    (fun j acc h' => acc = ((kvs.take j).filter p).map f ∧ Off [] (h.set r (.lkd kvs)) h')
    (fun j acc h' hj hi => by
      obtain ⟨rfl, o⟩ := hi
      have ht : kvs.take (j + 1) = kvs.take j ++ [kvs[j]] := by rw [List.take_add_one, List.getElem?_eq_getElem hj]; rfl
      have hit : (Src.keys r).item h' j = some (some kvs[j].1) := by simp only [Src.item, o.get g1 (by simp), List.getElem?_eq_getElem hj, Option.map_some]
      obtain ⟨h1, e1, o1, e2⟩ := step kvs[j] h' (List.getElem_mem hj) o
      cases hp : p kvs[j] with
      | true =>
        obtain ⟨h2, e2, o2⟩ := e2 hp
        rw [hp] at e1
        refine ⟨kvs[j].1, _, h2, hit, by simp only [e1, Option.bind_some, if_true, e2, Option.map_some]; rfl, ?_, (o.trans o1).trans o2⟩
        rw [ht, List.filter_append, List.map_append]
        simp [hp]
      | false =>
        rw [hp] at e1
        refine ⟨kvs[j].1, _, h1, hit, by simp only [e1, Option.bind_some, Bool.false_eq_true, if_false]; rfl, ?_, o.trans o1⟩
        rw [ht, List.filter_append, List.map_append]
        simp [hp])
    (fun acc h' hi => by simp only [Src.item, hi.2.get g1 (by simp), List.getElem?_eq_none (Nat.le_refl _), Option.map_none]) kvs.length 0 [] (h.set r (.lkd kvs)) (by omega) ⟨rfl, .refl _ _⟩
  rw [List.take_length] at ea
  subst ea
  have g2 := o.get g1 (by simp)
  have hun : unlockC h' r = some (h'.set r (.dct kvs)) := by unfold unlockC; rw [g2]
  refine ⟨h'.set r (.dct kvs), ?_, ?_⟩
  · simp only [evalC, hd, Bool.false_and, Bool.false_eq_true, if_false, hlk, Option.bind_some, hln, e, hun]
    rfl
  · have l1 := o.len
    rw [List.length_set] at l1
    refine ⟨by rw [List.length_set]; exact l1, fun j hj _ => ?_⟩
    by_cases hjr : j = r
    · subst hjr
      rw [List.getElem?_set_self (lt_of g2), g]
    · rw [List.getElem?_set_ne (Ne.symm hjr), o.at' j (by rw [List.length_set]; exact hj) (by simp), List.getElem?_set_ne (Ne.symm hjr)]
theorem b_sortedL {r : Nat} {xs : List CV} (e : h[r]? = some (.lst xs)) (hx : pls 19 xs = true) (hs : sortable xs = true) : biV .sorted [.ref r] h = some (.ref h.length, h ++ [.lst (xs.mergeSort cle)]) := by
  simp only [biV, iterable, e, Option.bind_some, show dep = 19 + 1 from rfl, dens_pl h 20 xs (pls_up 19 20 xs (by omega) hx), hs, and_self, if_true]
  rfl
theorem b_sortedD {r : Nat} {kvs : List (CV × CV)} (e : h[r]? = some (.dct kvs)) (hx : pls 19 (kvs.map (·.1)) = true) (hs : sortable (kvs.map (·.1)) = true) : biV .sorted [.ref r] h = some (.ref h.length, h ++ [.lst ((kvs.map (·.1)).mergeSort cle)]) := by
  simp only [biV, iterable, e, Option.bind_some, show dep = 19 + 1 from rfl, dens_pl h 20 _ (pls_up 19 20 _ (by omega) hx), hs, and_self, if_true]
  rfl
theorem b_sortedS {r : Nat} {xs : List CV} (e : h[r]? = some (.set xs)) (hx : pls 19 xs = true) (hs : sortable xs = true) : biV .sorted [.ref r] h = some (.ref h.length, h ++ [.lst (xs.mergeSort cle)]) := by
  simp only [biV, iterable, e, Option.bind_some, show dep = 19 + 1 from rfl, dens_pl h 20 xs (pls_up 19 20 xs (by omega) hx), hs, and_self, if_true]
  rfl
theorem b_sortedT {xs : List CV} (hx : pls 19 xs = true) (hs : sortable xs = true) : biV .sorted [.tup xs] h = some (.ref h.length, h ++ [.lst (xs.mergeSort cle)]) := by
  simp only [biV, iterable, Option.bind_some, show dep = 19 + 1 from rfl, dens_pl h 20 xs (pls_up 19 20 xs (by omega) hx), hs, and_self, if_true]
  rfl
theorem b_setL {r : Nat} {xs : List CV} (e : h[r]? = some (.lst xs)) (hx : xs.all isTx = true) (hl : xs.length ≤ 4000) : biV .set [.ref r] h = some (.ref h.length, h ++ [.set (insAllC [] xs)]) := by
  simp only [biV, items, rdl_of e, Option.bind_some, hx, hl, and_self, if_true]
  rfl
theorem b_setT {xs : List CV} (hx : xs.all isTx = true) (hl : xs.length ≤ 4000) : biV .set [.tup xs] h = some (.ref h.length, h ++ [.set (insAllC [] xs)]) := by
  simp only [biV, items, Option.bind_some, hx, hl, and_self, if_true]
  rfl
theorem b_lenSet {r : Nat} {xs : List CV} (e : h[r]? = some (.set xs)) : biV .len [.ref r] h = some (.int xs.length, h) := by simp only [biV, e]
theorem b_lenD {r : Nat} {xs : List (CV × CV)} (e : h[r]? = some (.dct xs)) : biV .len [.ref r] h = some (.int xs.length, h) := by simp only [biV, e]
theorem ints_map : ∀ ns : List Int, ints? (ns.map CV.int) = some ns
  | [] => rfl
  | n :: ns => by simp only [List.map_cons, ints?, ints_map ns, Option.map_some]
theorem b_sum {r : Nat} {ns : List Int} (e : h[r]? = some (.lst (ns.map CV.int))) : biV .sum [.ref r] h = some (.int ns.sum, h) := by simp only [biV, rdl_of e, Option.bind_some, ints_map, Option.map_some]
/-- over numbers, by a function -/
theorem comp_range {elt : CE} {i n : Nat} (f : Nat → CV) (hn : n ≤ 100000) (he : ∀ j : Nat, j < n → evalC F elt (s.set i (some (.int (0 + (j : Int))))) h = some (f j, h)) :
    compK F elt (.lit (.bl true)) i s (.ints 0 n) h = some (.ref h.length, h ++ [.lst ((List.range n).map f)]) := by
  obtain ⟨acc, h', e, rfl, rfl⟩ := comp_each (F := F) (s := s) (h := h) (elt := elt) (i := i) (src := .ints 0 n) (fun j acc h' => acc = (List.range j).map f ∧ h' = h) (by rw [src_intsL]; exact Nat.le_trans hn (by decide)) ⟨rfl, rfl⟩
    (fun j acc h' hj hi => by
      rw [src_intsL] at hj
      obtain ⟨rfl, rfl⟩ := hi
      exact ⟨.int (0 + (j : Int)), f j, h', by rw [src_ints, if_pos hj], he j hj, by rw [List.range_succ, List.map_append]; rfl, rfl⟩)
    (fun acc h' _ => by rw [src_intsL, src_ints, if_neg (by omega)])
  exact e
end
/-! what sorted gives -/
theorem clike_strs (a b : List Nat) : clike (.str a) (.str b) = true := by simp only [clike]
theorem sortable_strs (ks : List (List Nat)) : sortable (ks.map CV.str) = true := by
  unfold sortable
  simp only [List.all_map, Bool.and_eq_true, Bool.or_eq_true, List.all_eq_true, Function.comp, clike, implies_true, true_and]
  exact .inr trivial
/-- tuples of as many texts -/
theorem sortable_tups {n : Nat} (ts : List (List (List Nat))) (hn : ∀ t ∈ ts, t.length = n + 1) : sortable (ts.map fun t => CV.tup (t.map .str)) = true := by
  have cl : ∀ a b : List (List Nat), clikes (a.map CV.str) (b.map CV.str) = true := by
    intro a
    induction a with
    | nil => intro b; simp [clikes]
    | cons x a ih =>
      intro b
      cases b with
      | nil => simp [clikes]
      | cons y b => simp only [List.map_cons, clikes, clike, ih b, Bool.and_self]
  unfold sortable
  simp only [List.all_map, Bool.and_eq_true, Bool.or_eq_true, List.all_eq_true, Function.comp]
  refine ⟨fun a _ b _ => by simp only [clike, cl], .inl fun a ha => ?_⟩
  cases a with
  | nil => have := hn _ ha; simp at this
  | cons x a => rfl
theorem sort_mem {xs : List CV} {x : CV} : x ∈ xs.mergeSort cle ↔ x ∈ xs := (List.mergeSort_perm xs cle).mem_iff
theorem sort_len (xs : List CV) : (xs.mergeSort cle).length = xs.length := (List.mergeSort_perm xs cle).length_eq
end TH

/-! Comprehensions whose items write to the heap; dict(pairs); sets of texts. -/
namespace TH
section
variable {F : Fns} {W : Nat} {s : Env} {h : CH}
theorem comp_off {elt cond : CE} {i : Nat} {src : Src} {xs : List CV} (p : CV → Bool) (f : CV → CV) (hs : ∀ h', Off [] h h' → ∀ j, src.item h' j = some xs[j]?) (hl : src.len h = xs.length) (hm : xs.length ≤ lim)
    (step : ∀ x ∈ xs, ∀ h', Off [] h h' → ∃ h1, testC F cond (s.set i (some x)) h' = some (p x, h1) ∧ Off [] h' h1 ∧ (p x = true → ∃ h2, evalC F elt (s.set i (some x)) h1 = some (f x, h2) ∧ Off [] h1 h2)) :
    ∃ h', compK F elt cond i s src h = some (.ref h'.length, h' ++ [.lst ((xs.filter p).map f)]) ∧ Off [] h h' := by
  obtain ⟨acc, h', e, ea, o⟩ := comp_inv (F := F) (s := s) (h := h) (elt := elt) (cond := cond) (i := i) (src := src) (fun j acc h' => acc = ((xs.take j).filter p).map f ∧ Off [] h h') (by rw [hl]; exact hm) ⟨rfl, .refl _ _⟩
    (fun j acc h' hj hi => by
      obtain ⟨rfl, o⟩ := hi
      rw [hl] at hj
      have ht : xs.take (j + 1) = xs.take j ++ [xs[j]] := by rw [List.take_add_one, List.getElem?_eq_getElem hj]; rfl
      obtain ⟨h1, e1, o1, e2⟩ := step xs[j] (List.getElem_mem hj) h' o
      refine ⟨xs[j], p xs[j], h1, by rw [hs h' o, List.getElem?_eq_getElem hj], e1, ?_⟩
      cases hp : p xs[j] with
      | true =>
        obtain ⟨h2, e2, o2⟩ := e2 hp
        refine .inl ⟨rfl, f xs[j], h2, e2, ?_, (o.trans o1).trans o2⟩
        rw [ht, List.filter_append, List.map_append]
        simp [hp]
      | false =>
        refine .inr ⟨rfl, ?_, o.trans o1⟩
        rw [ht, List.filter_append, List.map_append]
        simp [hp])
    (fun acc h' hi => by rw [hs h' hi.2, hl, List.getElem?_eq_none (Nat.le_refl _)])
  rw [hl, List.take_length] at ea
  subst ea
  exact ⟨h', e, o⟩
theorem comp_offA {elt : CE} {i : Nat} {src : Src} {xs : List CV} (f : CV → CV) (hs : ∀ h', Off [] h h' → ∀ j, src.item h' j = some xs[j]?) (hl : src.len h = xs.length) (hm : xs.length ≤ lim)
    (step : ∀ x ∈ xs, ∀ h', Off [] h h' → ∃ h2, evalC F elt (s.set i (some x)) h' = some (f x, h2) ∧ Off [] h' h2) :
    ∃ h', compK F elt (.lit (.bl true)) i s src h = some (.ref h'.length, h' ++ [.lst (xs.map f)]) ∧ Off [] h h' := by
  obtain ⟨h', e, o⟩ := comp_off (F := F) (s := s) (h := h) (elt := elt) (cond := .lit (.bl true)) (i := i) (src := src) (xs := xs) (fun _ => true) f hs hl hm fun x hx h' o => ⟨h', t_lit, .refl _ _, fun _ => step x hx h' o⟩
  rw [List.filter_eq_self.mpr (fun _ _ => rfl)] at e
  exact ⟨h', e, o⟩
theorem hs_cell {r : Nat} {xs : List CV} (e : h[r]? = some (.lst xs)) : ∀ h', Off [] h h' → ∀ j, (Src.cell r).item h' j = some xs[j]? := fun h' o j => by
  rw [src_cell (o.get e (by simp))]
theorem at_last {α : Type} {xs : List α} {x : α} : atI (xs ++ [x]) (-1) = some x := by
  unfold atI ixN
  rw [if_neg (by omega), if_pos (by simp; omega)]
  have : (-1 + (((xs ++ [x]).length : Nat) : Int)).toNat = xs.length := by simp; omega
  rw [this]
  simp
/-! ### statements behind one another -/
def appS : CSs → CSs → CSs
  | .nil, b => b
  | .cons a as, b => .cons a (appS as b)
theorem seqC_assoc {a : SOut} {k l : Env → CH → SOut} : seqC (seqC a k) l = seqC a fun s h => seqC (k s h) l := by
  unfold seqC
  rcases a with _ | ⟨_ | v, s, h⟩ <;> rfl
theorem x_app : ∀ (a b : CSs) (s : Env) (h : CH), execCs F W (appS a b) s h = seqC (execCs F W a s h) (execCs F W b)
  | .nil, b, s, h => by rw [appS, x_nil, seqC_nx]
  | .cons a as, b, s, h => by
    rw [appS, x_cons, x_cons, seqC_assoc]
    congr 1
    funext s h
    exact x_app as b s h
/-! ### dict(pairs) -/
def foldP (kvs ps : List (CV × CV)) : List (CV × CV) := ps.foldl (fun acc kv => dput acc kv.1 kv.2) kvs
theorem foldP_no {k : CV} : ∀ (ps kvs : List (CV × CV)), k ∉ ps.map (·.1) → dget (foldP kvs ps) k = dget kvs k
  | [], _, _ => rfl
  | p :: ps, kvs, hn => by
    rw [List.map_cons, List.mem_cons, not_or] at hn
    show dget (foldP (dput kvs p.1 p.2) ps) k = _
    rw [foldP_no ps _ hn.2, dget_put, if_neg hn.1]
theorem foldP_at {k v : CV} : ∀ (ps kvs : List (CV × CV)), (ps.map (·.1)).Nodup → (k, v) ∈ ps → dget (foldP kvs ps) k = some v
  | p :: ps, kvs, nd, hm => by
    rw [List.map_cons, List.nodup_cons] at nd
    show dget (foldP (dput kvs p.1 p.2) ps) k = _
    rcases List.mem_cons.mp hm with rfl | hm
    · rw [foldP_no ps _ nd.1, dget_put, if_pos rfl]
    · exact foldP_at ps _ nd.2 hm
theorem foldP_lk : ∀ (ps kvs : List (CV × CV)), LK kvs → (∀ p ∈ ps, leafK p.1 = true) → LK (foldP kvs ps)
  | [], _, h, _ => h
  | p :: ps, kvs, h, hp => foldP_lk ps _ (h.put (hp p (by simp))) fun q hq => hp q (by simp [hq])
/-- the keys, unlike ones, as they come -/
theorem foldP_new : ∀ (ps kvs : List (CV × CV)), ((kvs ++ ps).map (·.1)).Nodup → foldP kvs ps = kvs ++ ps
  | [], kvs, _ => by simp [foldP]
  | p :: ps, kvs, nd => by
    have hn : p.1 ∉ kvs.map (·.1) := by
      rw [List.map_append, List.map_cons, List.nodup_append] at nd
      exact fun z => nd.2.2 _ z _ (by simp) rfl
    have e : dput kvs p.1 p.2 = kvs ++ [p] := by
      unfold dput
      rw [if_neg]
      rw [List.any_eq_true]
      rintro ⟨q, hq, e⟩
      exact hn (List.mem_map.mpr ⟨q, hq, of_decide_eq_true e⟩)
    show foldP (dput kvs p.1 p.2) ps = _
    rw [e, foldP_new ps _ (by simpa using nd)]
    simp
theorem pairs_map {α : Type} (f g : α → CV) : ∀ l : List α, pairs? (l.map fun x => CV.tup [f x, g x]) = some (l.map fun x => (f x, g x))
  | [] => rfl
  | x :: l => by
    show (pairs? (l.map fun x => CV.tup [f x, g x])).map ((f x, g x) :: ·) = _
    rw [pairs_map f g l]; rfl
theorem b_dict {r : Nat} {xs : List CV} {ps : List (CV × CV)} (e : h[r]? = some (.lst xs)) (hp : pairs? xs = some ps) (hk : ∀ p ∈ ps, leafK p.1 = true) : biV .dict1 [.ref r] h = some (.ref h.length, h ++ [.dct (foldP [] ps)]) := by
  have : (ps.all fun p => leafK p.1) = true := List.all_eq_true.mpr hk
  simp only [biV, rdl_of e, Option.bind_some, hp, this, if_true]
  rfl
/-! ### sets of texts -/
theorem insC_memH {ks : List CV} {k j : CV} : j ∈ insC ks k ↔ j ∈ ks ∨ j = k := by
  unfold insC
  split
  · rename_i hk
    exact ⟨.inl, fun z => z.elim id fun e => e ▸ hk⟩
  · rw [List.mem_cons]; exact or_comm
theorem insAllC_memH {j : CV} : ∀ (xs ks : List CV), j ∈ insAllC ks xs ↔ j ∈ ks ∨ j ∈ xs
  | [], ks => by simp [insAllC]
  | x :: xs, ks => by
    rw [insAllC, insAllC_memH xs, insC_memH, List.mem_cons, or_assoc]
theorem insAllC_nodup : ∀ (xs ks : List CV), ks.Nodup → (insAllC ks xs).Nodup
  | [], _, h => h
  | x :: xs, ks, h => by
    rw [insAllC]
    refine insAllC_nodup xs _ ?_
    unfold insC
    split
    · exact h
    · exact List.nodup_cons.mpr ⟨by assumption, h⟩
theorem insAllC_len : ∀ (xs ks : List CV), (insAllC ks xs).length ≤ ks.length + xs.length
  | [], _ => by simp [insAllC]
  | x :: xs, ks => by
    have h1 := insAllC_len xs (insC ks x)
    have h2 : (insC ks x).length ≤ ks.length + 1 := by unfold insC; split <;> simp
    rw [insAllC, List.length_cons]; omega
theorem strs_of : ∀ {xs : List CV}, (∀ x ∈ xs, ∃ t, x = CV.str t) → ∃ ts : List (List Nat), xs = ts.map CV.str
  | [], _ => ⟨[], rfl⟩
  | x :: xs, h => by
    obtain ⟨t, rfl⟩ := h x (by simp)
    obtain ⟨ts, rfl⟩ := strs_of fun y hy => h y (List.mem_cons_of_mem _ hy)
    exact ⟨t :: ts, rfl⟩
theorem str_injH {a b : List Nat} (e : CV.str a = CV.str b) : a = b := by cases e; rfl
theorem mem_strs {k : List Nat} {ks : List (List Nat)} : CV.str k ∈ ks.map CV.str ↔ k ∈ ks := by
  rw [List.mem_map]
  exact ⟨fun ⟨j, hj, e⟩ => str_injH e ▸ hj, fun h => ⟨k, h, rfl⟩⟩
/-- sorted(set(xs)) of texts -/
theorem sorted_set (ks : List (List Nat)) : ∃ ts : List (List Nat), (insAllC [] (ks.map CV.str)).mergeSort cle = ts.map CV.str ∧ ts.Nodup ∧ (∀ k, k ∈ ts ↔ k ∈ ks) ∧ ts.length ≤ ks.length := by
  have hm : ∀ x ∈ (insAllC [] (ks.map CV.str)).mergeSort cle, ∃ t, x = CV.str t := fun x hx => by
    rw [sort_mem, insAllC_memH] at hx
    rcases hx with z | z
    · cases z
    · obtain ⟨t, _, rfl⟩ := List.mem_map.mp z
      exact ⟨t, rfl⟩
  obtain ⟨ts, e⟩ := strs_of hm
  have nd : ((insAllC [] (ks.map CV.str)).mergeSort cle).Nodup := (List.mergeSort_perm _ cle).nodup_iff.mpr (insAllC_nodup _ _ List.nodup_nil)
  refine ⟨ts, e, ?_, fun k => ?_, ?_⟩
  · rw [e] at nd
    exact (List.pairwise_map.mp nd).imp fun h e => h (by rw [e])
  · rw [← mem_strs, ← e, sort_mem, insAllC_memH, mem_strs]
    simp
  · have h1 := insAllC_len (ks.map CV.str) []
    have h2 := sort_len (insAllC [] (ks.map CV.str))
    rw [e] at h2
    simp at h1 h2
    omega
theorem set_strs (ks : List (List Nat)) : ∃ ts : List (List Nat), insAllC [] (ks.map CV.str) = ts.map CV.str := strs_of fun x hx => by
  rcases (insAllC_memH _ _).mp hx with z | z
  · cases z
  · obtain ⟨t, _, rfl⟩ := List.mem_map.mp z
    exact ⟨t, rfl⟩
theorem pls_strs (n : Nat) (ks : List (List Nat)) : pls n (ks.map CV.str) = true := pls_iff.mpr fun x hx => by
  obtain ⟨t, _, rfl⟩ := List.mem_map.mp hx
  cases n <;> rfl
theorem all_tx (ks : List (List Nat)) : (ks.map CV.str).all isTx = true := List.all_eq_true.mpr fun x hx => by
  obtain ⟨t, _, rfl⟩ := List.mem_map.mp hx
  rfl
end
end TH

namespace TH
open PySem
/-- is_whole -/
def b0 : CSs := (.cons (.ret (.and (.bi (.isi .int) (.cons (.var 0) .nil)) (.not (.bi (.isi .bool) (.cons (.var 0) .nil))))) .nil)
def n0 : List Str := ["thing"]
/-- is_name -/
def b1 : CSs := (.cons (.iff (.or (.not (.bi (.isi .str) (.cons (.var 0) .nil))) (.not (.cmp2 .le .le (.lit (.int 1)) (.bi .len (.cons (.var 0) .nil)) (.glob "MOST_LETTERS" (.int 8))))) (.cons (.ret (.lit (.bl false))) .nil) .nil) (.cons (.ret (.bi .all (.cons (.comp (.cmp .isin (.var 1) (.glob "SMALL" (.str [97, 98, 99, 100, 101, 102, 103, 104, 105, 106, 107, 108, 109, 110, 111, 112, 113, 114, 115, 116, 117, 118, 119, 120, 121, 122]))) 1 (.val (.var 0)) (.lit (.bl true))) .nil))) .nil))
def n1 : List Str := ["thing", "sign"]
/-- is_deed -/
def b2 : CSs := (.cons (.iff (.or (.not (.bi (.isi .tup) (.cons (.var 0) .nil))) (.or (.cmp .ne (.bi .len (.cons (.var 0) .nil)) (.lit (.int 4))) (.not (.bi .all (.cons (.comp (.call 1 (.cons (.var 1) .nil)) 1 (.val (.sl (.var 0) (.ex (.lit (.int 1))) .no)) (.lit (.bl true))) .nil))))) (.cons (.ret (.lit (.bl false))) .nil) .nil) (.cons (.ret (.and (.bi (.isi .str) (.cons (.ix (.var 0) (.lit (.int 0))) .nil)) (.and (.cmp .isin (.ix (.var 0) (.lit (.int 0))) (.tup (.cons (.lit (.str [115, 101, 110, 100])) (.cons (.lit (.str [116, 97, 107, 101])) .nil)))) (.cmp .ne (.ix (.var 0) (.lit (.int 1))) (.ix (.var 0) (.lit (.int 2))))))) .nil))
def n2 : List Str := ["thing", "part"]
/-- hand_of -/
def b3 : CSs := (.cons (.iff (.cmp .eq (.ix (.var 0) (.lit (.int 0))) (.lit (.str [115, 101, 110, 100]))) (.cons (.ret (.ix (.var 0) (.lit (.int 1)))) .nil) .nil) (.cons (.ret (.ix (.var 0) (.lit (.int 2)))) .nil))
def n3 : List Str := ["deed"]
/-- _law_pool -/
def b4 : CSs := (.cons (.asg (.nm 1) (.lit (.int 0))) (.cons (.iff (.or (.cmp .lt (.var 0) (.lit (.int 0))) (.cmp .ge (.var 0) (.bin .pow (.lit (.int 10)) (.lit (.int 18))))) (.cons (.asg (.nm 1) (.bi .abs (.cons (.var 0) .nil))) .nil) .nil) (.cons (.asg (.nm 2) (.bin .mod (.var 0) (.lit (.int 1000000403)))) (.cons (.ret (.lst (.cons (.var 1) (.cons (.var 2) (.cons (.bin .mod (.bin .add (.bin .mul (.var 2) (.lit (.int 48271))) (.lit (.int 12345))) (.lit (.int 1000000513))) .nil))))) .nil))))
def n4 : List Str := ["_law_cell", "_law_figures", "_law_one"]
/-- _law_draw -/
def b5 : CSs := (.cons (.iff (.cmp .gt (.ix (.var 0) (.lit (.int 0))) (.lit (.int 0))) (.cons (.asg (.nm 2) (.bin .mod (.ix (.var 0) (.lit (.int 0))) (.var 1))) (.cons (.asg (.sub (.var 0) (.lit (.int 0))) (.bin .fdiv (.ix (.var 0) (.lit (.int 0))) (.var 1))) (.cons (.ret (.var 2)) .nil))) .nil) (.cons (.asg (.sub (.var 0) (.lit (.int 1))) (.bin .mod (.bin .add (.bin .add (.bin .mul (.ix (.var 0) (.lit (.int 1))) (.lit (.int 40014))) (.ix (.var 0) (.lit (.int 2)))) (.lit (.int 7))) (.lit (.int 1000000403)))) (.cons (.asg (.sub (.var 0) (.lit (.int 2))) (.bin .mod (.bin .add (.bin .add (.bin .mul (.ix (.var 0) (.lit (.int 2))) (.lit (.int 40699))) (.bin .mod (.bin .mul (.ix (.var 0) (.lit (.int 1))) (.ix (.var 0) (.lit (.int 1)))) (.lit (.int 65537)))) (.lit (.int 1))) (.lit (.int 1000000513)))) (.cons (.ret (.bin .mod (.bin .fdiv (.bin .add (.ix (.var 0) (.lit (.int 1))) (.bin .mul (.lit (.int 7)) (.ix (.var 0) (.lit (.int 2))))) (.lit (.int 16))) (.var 1))) .nil))))
def n5 : List Str := ["_law_pool_here", "_law_top", "_law_found"]
/-- _law_name -/
def b6 : CSs := (.cons (.asg (.nm 2) (.lit (.str [97, 98, 99, 100, 101, 102, 103, 104, 105, 106, 107, 108, 109, 110, 111, 112, 113, 114, 115, 116, 117, 118, 119, 120, 121, 122]))) (.cons (.iff (.and (.cmp .ne (.var 1) (.lst .nil)) (.cmp .eq (.call 5 (.cons (.var 0) (.cons (.lit (.int 4)) .nil))) (.lit (.int 1)))) (.cons (.asg (.nm 3) (.sl (.bin .add (.ix (.var 1) (.call 5 (.cons (.var 0) (.cons (.bi .len (.cons (.var 1) .nil)) .nil)))) (.ix (.var 2) (.call 5 (.cons (.var 0) (.cons (.lit (.int 26)) .nil))))) .no (.ex (.lit (.int 8))))) .nil) (.cons (.asg (.nm 3) (.me .join (.lit (.str [])) (.cons (.comp (.ix (.var 2) (.call 5 (.cons (.var 0) (.cons (.lit (.int 26)) .nil)))) 5 (.range1 (.bin .add (.lit (.int 1)) (.call 5 (.cons (.var 0) (.cons (.lit (.int 8)) .nil))))) (.lit (.bl true))) .nil))) .nil)) (.cons (.asg (.nm 4) (.bin .add (.lst (.cons (.var 3) .nil)) (.comp (.bin .add (.sl (.var 3) .no (.ex (.lit (.int 7)))) (.var 6)) 6 (.val (.var 2)) (.lit (.bl true))))) (.cons (.ret (.ix (.comp (.var 7) 7 (.val (.var 4)) (.cmp .notin (.var 7) (.var 1))) (.lit (.int 0)))) .nil))))
def n6 : List Str := ["_law_pool_here", "_law_known", "_law_letters", "_law_name_here", "_law_some", "_law_k", "_law_sign", "_law_one"]
/-- _law_hands -/
def b7 : CSs := (.cons (.asg (.nm 2) (.lst .nil)) (.cons (.fo (.nm 3) (.range1 (.var 1)) (.cons (.expr (.me .append (.var 2) (.cons (.call 6 (.cons (.var 0) (.cons (.var 2) .nil))) .nil))) .nil)) (.cons (.ret (.var 2)) .nil)))
def n7 : List Str := ["_law_pool_here", "_law_amount", "_law_found", "_law_k"]
/-- _law_told -/
def b8 : CSs := (.cons (.asg (.nm 1) (.lst (.cons (.call 0 (.cons (.var 0) .nil)) (.cons (.call 1 (.cons (.var 0) .nil)) (.cons (.call 2 (.cons (.var 0) .nil)) .nil))))) (.cons (.iff (.not (.bi .all (.cons (.comp (.bi (.isi .bool) (.cons (.var 2) .nil)) 2 (.val (.var 1)) (.lit (.bl true))) .nil))) (.cons (.ret (.lit .non)) .nil) .nil) (.cons (.ret (.var 1)) .nil)))
def n8 : List Str := ["_law_thing", "_law_found", "_law_one"]
/-- _law_no_names -/
def b9 : CSs := (.cons (.asg (.nm 1) (.lst (.cons (.lit (.str [])) (.cons (.bin .add (.var 0) (.lit (.str [97, 98, 99, 100, 101, 102, 103, 104, 105]))) (.cons (.me .upper (.var 0) .nil) (.cons (.bin .add (.sl (.var 0) .no (.ex (.lit (.int 7)))) (.lit (.str [49]))) (.cons (.bin .add (.sl (.var 0) .no (.ex (.lit (.int 6)))) (.lit (.str [32, 97]))) (.cons (.lit (.str [32])) (.cons (.lit (.str [97, 10])) (.cons (.lit (.str [45])) (.cons (.lit (.str [48])) .nil))))))))))) (.cons (.asg (.nm 1) (.bin .add (.var 1) (.lst (.cons (.bin .add (.sl (.var 0) .no (.ex (.lit (.int 7)))) (.lit (.str [33]))) (.cons (.bin .add (.sl (.var 0) .no (.ex (.lit (.int 1)))) (.lit (.str [97, 98, 99, 100, 101, 102, 103, 104]))) .nil))))) (.cons (.ret (.bin .add (.var 1) (.lst (.cons (.lit .non) (.cons (.lit (.bl true)) (.cons (.lit (.bl false)) (.cons (.tup .nil) (.cons (.tup (.cons (.var 0) .nil)) (.cons (.lst (.cons (.var 0) .nil)) (.cons (.lst .nil) (.cons .dct0 (.cons (.lit (.str [97, 58, 98])) (.cons (.bin .add (.sl (.var 0) .no (.ex (.lit (.int 6)))) (.lit (.str [62, 98]))) (.cons (.tup (.cons (.tup .nil) .nil)) (.cons (.bin .add (.sl (.var 0) .no (.ex (.lit (.int 7)))) (.lit (.str [65]))) .nil))))))))))))))) .nil)))
def n9 : List Str := ["_law_name_here", "_law_found"]
/-- _law_no_deeds -/
def b10 : CSs := (.cons (.asg (.nm 4) (.tup (.cons (.var 0) (.cons (.var 1) (.cons (.var 2) (.cons (.var 3) .nil)))))) (.cons (.asg (.nm 5) (.lst (.cons (.sl (.var 4) .no (.ex (.lit (.int 3)))) (.cons (.bin .add (.var 4) (.tup (.cons (.var 3) .nil))) (.cons (.bi .list (.cons (.var 4) .nil)) (.cons (.tup (.cons (.var 4) .nil)) (.cons (.sl (.var 4) (.ex (.lit (.int 1))) .no) (.cons (.tup (.cons (.var 0) (.cons (.var 1) (.cons (.var 1) (.cons (.var 3) .nil))))) (.cons (.bin .mul (.tup (.cons (.var 0) .nil)) (.lit (.int 4))) .nil))))))))) (.cons (.asg (.nm 5) (.bin .add (.var 5) (.lst (.cons (.bin .add (.tup (.cons (.me .upper (.var 0) .nil) .nil)) (.sl (.var 4) (.ex (.lit (.int 1))) .no)) (.cons (.bin .add (.tup (.cons (.lit (.str [115, 101, 110, 100, 115])) .nil)) (.sl (.var 4) (.ex (.lit (.int 1))) .no)) (.cons (.bin .add (.tup (.cons (.lit (.str [])) .nil)) (.sl (.var 4) (.ex (.lit (.int 1))) .no)) (.cons (.bin .add (.tup (.cons (.lit .non) .nil)) (.sl (.var 4) (.ex (.lit (.int 1))) .no)) .nil))))))) (.cons (.asg (.nm 5) (.bin .add (.var 5) (.lst (.cons (.bin .add (.tup (.cons (.lst (.cons (.var 0) .nil)) .nil)) (.sl (.var 4) (.ex (.lit (.int 1))) .no)) (.cons (.bin .add (.tup (.cons (.bin .add (.sl (.var 1) .no (.ex (.lit (.int 7)))) (.lit (.str [120]))) .nil)) (.sl (.var 4) (.ex (.lit (.int 1))) .no)) (.cons (.bin .add (.tup (.cons (.lit (.bl true)) .nil)) (.sl (.var 4) (.ex (.lit (.int 1))) .no)) (.cons (.bin .add (.tup (.cons (.tup (.cons (.var 0) .nil)) .nil)) (.sl (.var 4) (.ex (.lit (.int 1))) .no)) .nil))))))) (.cons (.fo (.nm 6) (.val (.call 9 (.cons (.var 3) .nil))) (.cons (.asg (.nm 5) (.bin .add (.var 5) (.lst (.cons (.tup (.cons (.var 0) (.cons (.var 6) (.cons (.var 2) (.cons (.var 3) .nil))))) (.cons (.tup (.cons (.var 0) (.cons (.var 1) (.cons (.var 6) (.cons (.var 3) .nil))))) (.cons (.tup (.cons (.var 0) (.cons (.var 1) (.cons (.var 2) (.cons (.var 6) .nil))))) .nil)))))) .nil)) (.cons (.ret (.var 5)) .nil))))))
def n10 : List Str := ["_law_kind", "_law_one", "_law_other", "_law_word", "_law_deed", "_law_found", "_law_odd"]
/-- law -/
def b11 : CSs := (.cons (.fo (.nm 1) (.val (.bin .add (.lst (.cons (.lit (.int 0)) .nil)) (.sl (.var 0) .no (.ex (.lit (.int 8)))))) (.cons (.asg (.nm 2) (.call 4 (.cons (.var 1) .nil))) (.cons (.asg (.tup [3, 4, 5]) (.call 7 (.cons (.var 2) (.cons (.lit (.int 3)) .nil)))) (.cons (.asg (.nm 6) (.bin .sub (.call 5 (.cons (.var 2) (.cons (.bin .pow (.lit (.int 10)) (.lit (.int 6))) .nil))) (.lit (.int 1000)))) (.cons (.iff (.not (.bi .all (.cons (.comp (.cmp .eq (.call 8 (.cons (.var 9) .nil)) (.lst (.cons (.lit (.bl false)) (.cons (.lit (.bl true)) (.cons (.lit (.bl false)) .nil))))) 9 (.val (.lst (.cons (.var 3) (.cons (.var 4) (.cons (.var 5) .nil))))) (.lit (.bl true))) .nil))) (.cons (.ret (.lit (.bl false))) .nil) .nil) (.cons (.iff (.or (.cmp .ne (.call 8 (.cons (.var 6) .nil)) (.lst (.cons (.lit (.bl true)) (.cons (.lit (.bl false)) (.cons (.lit (.bl false)) .nil))))) (.cmp .ne (.call 8 (.cons (.lit (.int 0)) .nil)) (.lst (.cons (.lit (.bl true)) (.cons (.lit (.bl false)) (.cons (.lit (.bl false)) .nil)))))) (.cons (.ret (.lit (.bl false))) .nil) .nil) (.cons (.iff (.not (.bi .all (.cons (.comp (.cmp .eq (.call 8 (.cons (.var 10) .nil)) (.lst (.cons (.lit (.bl false)) (.cons (.lit (.bl false)) (.cons (.lit (.bl false)) .nil))))) 10 (.val (.call 9 (.cons (.var 3) .nil))) (.lit (.bl true))) .nil))) (.cons (.ret (.lit (.bl false))) .nil) .nil) (.cons (.fo (.nm 7) (.val (.lst (.cons (.lit (.str [115, 101, 110, 100])) (.cons (.lit (.str [116, 97, 107, 101])) .nil)))) (.cons (.asg (.nm 8) (.tup (.cons (.var 7) (.cons (.var 3) (.cons (.var 4) (.cons (.var 5) .nil)))))) (.cons (.iff (.or (.cmp .ne (.call 8 (.cons (.var 8) .nil)) (.lst (.cons (.lit (.bl false)) (.cons (.lit (.bl false)) (.cons (.lit (.bl true)) .nil))))) (.cmp .ne (.call 3 (.cons (.var 8) .nil)) (.ix (.lst (.cons (.var 3) (.cons (.var 4) .nil))) (.bi .int (.cons (.cmp .eq (.var 7) (.lit (.str [116, 97, 107, 101]))) .nil))))) (.cons (.ret (.lit (.bl false))) .nil) .nil) (.cons (.iff (.cmp .ne (.call 8 (.cons (.tup (.cons (.var 7) (.cons (.var 3) (.cons (.var 4) (.cons (.var 3) .nil))))) .nil)) (.lst (.cons (.lit (.bl false)) (.cons (.lit (.bl false)) (.cons (.lit (.bl true)) .nil))))) (.cons (.ret (.lit (.bl false))) .nil) .nil) (.cons (.iff (.bi .any (.cons (.comp (.cmp .isnot (.call 2 (.cons (.var 10) .nil)) (.lit (.bl false))) 10 (.val (.call 10 (.cons (.var 7) (.cons (.var 3) (.cons (.var 4) (.cons (.var 5) .nil)))))) (.lit (.bl true))) .nil)) (.cons (.ret (.lit (.bl false))) .nil) .nil) .nil))))) .nil)))))))) (.cons (.ret (.lit (.bl true))) .nil))
def n11 : List Str := ["_law_script", "_law_cell", "_law_pool_here", "_law_one", "_law_other", "_law_word", "_law_number", "_law_kind", "_law_deed", "_law_name_here", "_law_thing"]
/-- is_row -/
def b12 : CSs := (.cons (.ret (.and (.bi (.isi .tup) (.cons (.var 0) .nil)) (.bi .all (.cons (.comp (.call 2 (.cons (.var 1) .nil)) 1 (.val (.var 0)) (.lit (.bl true))) .nil)))) .nil)
def n12 : List Str := ["thing", "deed"]
/-- _law_any_row -/
def b13 : CSs := (.cons (.asg (.nm 4) (.lst .nil)) (.cons (.fo (.nm 5) (.range1 (.call 5 (.cons (.var 0) (.cons (.bin .add (.var 3) (.lit (.int 1))) .nil)))) (.cons (.asg (.nm 6) (.ix (.var 1) (.call 5 (.cons (.var 0) (.cons (.bi .len (.cons (.var 1) .nil)) .nil))))) (.cons (.asg (.nm 7) (.comp (.var 10) 10 (.val (.var 1)) (.cmp .ne (.var 10) (.var 6)))) (.cons (.asg (.nm 8) (.ix (.var 7) (.call 5 (.cons (.var 0) (.cons (.bi .len (.cons (.var 7) .nil)) .nil))))) (.cons (.asg (.nm 9) (.tup (.cons (.lit (.str [115, 101, 110, 100])) (.cons (.var 6) (.cons (.var 8) (.cons (.ix (.var 2) (.call 5 (.cons (.var 0) (.cons (.bi .len (.cons (.var 2) .nil)) .nil)))) .nil)))))) (.cons (.iff (.cmp .eq (.call 5 (.cons (.var 0) (.cons (.lit (.int 3)) .nil))) (.lit (.int 1))) (.cons (.asg (.nm 9) (.bin .add (.tup (.cons (.lit (.str [116, 97, 107, 101])) .nil)) (.sl (.var 9) (.ex (.lit (.int 1))) .no))) .nil) .nil) (.cons (.expr (.me .append (.var 4) (.cons (.var 9) .nil))) (.cons (.iff (.and (.cmp .eq (.ix (.var 9) (.lit (.int 0))) (.lit (.str [115, 101, 110, 100]))) (.cmp .eq (.call 5 (.cons (.var 0) (.cons (.lit (.int 2)) .nil))) (.lit (.int 1)))) (.cons (.expr (.me .append (.var 4) (.cons (.bin .add (.tup (.cons (.lit (.str [116, 97, 107, 101])) .nil)) (.sl (.var 9) (.ex (.lit (.int 1))) .no)) .nil))) .nil) .nil) .nil)))))))) (.cons (.ret (.bi .tuple (.cons (.sl (.var 4) .no (.ex (.var 3))) .nil))) .nil)))
def n13 : List Str := ["_law_pool_here", "_law_hands_here", "_law_words", "_law_most", "_law_found", "_law_k", "_law_one", "_law_others", "_law_other", "_law_deed", "_law_hand"]
/-- _law_is -/
def b14 : CSs := (.cons (.ret (.and (.bi (.isi .bool) (.cons (.var 0) .nil)) (.cmp .eq (.var 0) (.var 1)))) .nil)
def n14 : List Str := ["_law_found", "_law_due"]
/-- _law_no_rows -/
def b15 : CSs := (.cons (.asg (.nm 4) (.tup (.cons (.lit (.str [115, 101, 110, 100])) (.cons (.var 2) (.cons (.var 3) (.cons (.var 2) .nil)))))) (.cons (.asg (.nm 5) (.lst (.cons (.bi .list (.cons (.var 4) .nil)) (.cons (.sl (.var 4) .no (.ex (.lit (.int 3)))) (.cons (.bin .add (.var 4) (.tup (.cons (.var 2) .nil))) (.cons (.tup (.cons (.lit (.str [115, 101, 110, 100])) (.cons (.var 2) (.cons (.var 2) (.cons (.var 3) .nil))))) (.cons (.bin .add (.tup (.cons (.lit (.str [103, 105, 118, 101])) .nil)) (.sl (.var 4) (.ex (.lit (.int 1))) .no)) (.cons (.lit .non) (.cons (.lit (.str [45])) (.cons (.var 2) .nil)))))))))) (.cons (.asg (.nm 5) (.bin .add (.var 5) (.lst (.cons (.tup .nil) (.cons (.tup (.cons (.tup .nil) .nil)) (.cons .dct0 (.cons (.lst (.cons (.var 4) .nil)) (.cons (.tup (.cons (.var 4) .nil)) (.cons (.tup (.cons (.lit (.str [115, 101, 110, 100])) (.cons (.var 2) (.cons (.var 3) (.cons (.lit (.str [])) .nil))))) (.cons (.tup (.cons (.lit (.str [116, 97, 107, 101])) (.cons (.var 2) (.cons (.lit (.str [65])) (.cons (.var 2) .nil))))) (.cons (.lit (.int 7)) (.cons (.lit (.bl true)) .nil)))))))))))) (.cons (.expr (.me .append (.var 5) (.cons (.tup (.cons (.lit (.str [116, 97, 107, 101])) (.cons (.lit (.int 1)) (.cons (.var 2) (.cons (.var 2) .nil))))) .nil))) (.cons (.asg (.nm 5) (.bin .add (.var 5) (.lst (.cons (.bin .add (.tup (.cons (.bin .add (.sl (.var 2) .no (.ex (.lit (.int 7)))) (.lit (.str [120]))) .nil)) (.sl (.var 4) (.ex (.lit (.int 1))) .no)) (.cons (.tup (.cons (.lit (.str [115, 101, 110, 100])) (.cons (.lst (.cons (.var 2) .nil)) (.cons (.var 3) (.cons (.var 2) .nil))))) (.cons (.tup (.cons (.lit (.str [115, 101, 110, 100])) (.cons (.var 2) (.cons .dct0 (.cons (.var 2) .nil))))) (.cons (.lit (.str [97, 33, 98, 58, 99])) .nil))))))) (.cons (.asg (.nm 6) (.comp (.bin .add (.bin .add (.sl (.var 0) .no (.ex (.var 1))) (.tup (.cons (.var 7) .nil))) (.sl (.var 0) (.ex (.var 1)) .no)) 7 (.val (.var 5)) (.lit (.bl true)))) (.cons (.ret (.bin .add (.var 6) (.lst (.cons (.bi .list (.cons (.var 0) .nil)) (.cons (.lit .non) (.cons (.lit (.int 7)) (.cons (.lit (.bl true)) (.cons (.lit (.str [45])) (.cons (.lit (.str [])) (.cons .dct0 (.cons (.var 4) (.cons (.lst (.cons (.var 0) .nil)) (.cons (.tup (.cons (.var 0) (.cons (.var 0) (.cons (.tup (.cons (.var 4) .nil)) .nil)))) (.cons (.tup (.cons (.lst .nil) .nil)) .nil)))))))))))))) .nil)))))))
def n15 : List Str := ["_law_row", "_law_at", "_law_one", "_law_other", "_law_deed", "_law_odds", "_law_found", "_law_odd"]
/-- law -/
def b16 : CSs := (.cons (.fo (.nm 1) (.val (.bin .add (.lst (.cons (.lit (.int 0)) .nil)) (.sl (.var 0) .no (.ex (.lit (.int 10)))))) (.cons (.asg (.nm 2) (.call 4 (.cons (.var 1) .nil))) (.cons (.asg (.nm 3) (.call 7 (.cons (.var 2) (.cons (.bin .add (.lit (.int 2)) (.call 5 (.cons (.var 2) (.cons (.lit (.int 3)) .nil)))) .nil)))) (.cons (.asg (.nm 4) (.call 7 (.cons (.var 2) (.cons (.bin .add (.lit (.int 1)) (.call 5 (.cons (.var 2) (.cons (.lit (.int 3)) .nil)))) .nil)))) (.cons (.asg (.nm 5) (.call 13 (.cons (.var 2) (.cons (.var 3) (.cons (.var 4) (.cons (.lit (.int 20)) .nil)))))) (.cons (.iff (.or (.not (.call 14 (.cons (.call 12 (.cons (.var 5) .nil)) (.cons (.lit (.bl true)) .nil)))) (.not (.call 14 (.cons (.call 12 (.cons (.tup .nil) .nil)) (.cons (.lit (.bl true)) .nil))))) (.cons (.ret (.lit (.bl false))) .nil) .nil) (.cons (.fo (.nm 6) (.val (.call 15 (.cons (.var 5) (.cons (.call 5 (.cons (.var 2) (.cons (.bin .add (.bi .len (.cons (.var 5) .nil)) (.lit (.int 1))) .nil))) (.cons (.ix (.var 3) (.lit (.int 0))) (.cons (.ix (.var 3) (.lit (.int 1))) .nil)))))) (.cons (.iff (.not (.call 14 (.cons (.call 12 (.cons (.var 6) .nil)) (.cons (.lit (.bl false)) .nil)))) (.cons (.ret (.lit (.bl false))) .nil) .nil) .nil)) .nil))))))) (.cons (.ret (.lit (.bl true))) .nil))
def n16 : List Str := ["_law_script", "_law_cell", "_law_pool_here", "_law_hands_here", "_law_words", "_law_row", "_law_thing"]
/-- taking_of -/
def b17 : CSs := (.cons (.ret (.bin .add (.tup (.cons (.lit (.str [116, 97, 107, 101])) .nil)) (.sl (.var 0) (.ex (.lit (.int 1))) .no))) .nil)
def n17 : List Str := ["deed"]
/-- show_deed -/
def b18 : CSs := (.cons (.asg (.tup [1, 2, 3, 4]) (.var 0)) (.cons (.iff (.cmp .eq (.var 1) (.lit (.str [115, 101, 110, 100]))) (.cons (.ret (.bin .add (.bin .add (.bin .add (.bin .add (.var 2) (.lit (.str [33]))) (.var 3)) (.lit (.str [58]))) (.var 4))) .nil) .nil) (.cons (.ret (.bin .add (.bin .add (.bin .add (.bin .add (.var 3) (.lit (.str [63]))) (.var 2)) (.lit (.str [58]))) (.var 4))) .nil)))
def n18 : List Str := ["deed", "kind", "one", "other", "word"]
/-- is_both -/
def b19 : CSs := (.cons (.ret (.and (.cmp .eq (.ix (.ix (.var 0) (.var 1)) (.lit (.int 0))) (.lit (.str [115, 101, 110, 100]))) (.cmp .eq (.sl (.var 0) (.ex (.bin .add (.var 1) (.lit (.int 1)))) (.ex (.bin .add (.var 1) (.lit (.int 2))))) (.tup (.cons (.call 17 (.cons (.ix (.var 0) (.var 1)) .nil)) .nil))))) .nil)
def n19 : List Str := ["row", "at"]
/-- show_row -/
def b20 : CSs := (.cons (.iff (.cmp .eq (.var 0) (.tup .nil)) (.cons (.ret (.lit (.str [45]))) .nil) .nil) (.cons (.asg (.nm 1) (.lst .nil)) (.cons (.asg (.nm 2) (.lit (.int 0))) (.cons (.wh (.cmp .lt (.var 2) (.bi .len (.cons (.var 0) .nil))) (.cons (.iff (.call 19 (.cons (.var 0) (.cons (.var 2) .nil))) (.cons (.expr (.me .append (.var 1) (.cons (.bin .add (.bin .add (.bin .add (.bin .add (.ix (.ix (.var 0) (.var 2)) (.lit (.int 1))) (.lit (.str [62]))) (.ix (.ix (.var 0) (.var 2)) (.lit (.int 2)))) (.lit (.str [58]))) (.ix (.ix (.var 0) (.var 2)) (.lit (.int 3)))) .nil))) (.cons (.asg (.nm 2) (.bin .add (.var 2) (.lit (.int 2)))) .nil)) (.cons (.expr (.me .append (.var 1) (.cons (.call 18 (.cons (.ix (.var 0) (.var 2)) .nil)) .nil))) (.cons (.asg (.nm 2) (.bin .add (.var 2) (.lit (.int 1)))) .nil))) .nil)) (.cons (.ret (.me .join (.lit (.str [32])) (.cons (.var 1) .nil))) .nil)))))
def n20 : List Str := ["row", "found", "at"]
/-- deeds_in -/
def b21 : CSs := (.cons (.asg (.tup [1, 2, 3]) (.me .partition (.var 0) (.cons (.lit (.str [58])) .nil))) (.cons (.iff (.cmp .eq (.var 2) (.lit (.str []))) (.cons (.ret (.lit .non)) .nil) .nil) (.cons (.fo (.nm 4) (.val (.lit (.str [33, 63, 62]))) (.cons (.asg (.tup [5, 6, 7]) (.me .partition (.var 1) (.cons (.var 4) .nil))) (.cons (.iff (.and (.cmp .ne (.var 6) (.lit (.str []))) (.cmp .eq (.var 4) (.lit (.str [33])))) (.cons (.ret (.tup (.cons (.tup (.cons (.lit (.str [115, 101, 110, 100])) (.cons (.var 5) (.cons (.var 7) (.cons (.var 3) .nil))))) .nil))) .nil) .nil) (.cons (.iff (.and (.cmp .ne (.var 6) (.lit (.str []))) (.cmp .eq (.var 4) (.lit (.str [63])))) (.cons (.ret (.tup (.cons (.tup (.cons (.lit (.str [116, 97, 107, 101])) (.cons (.var 7) (.cons (.var 5) (.cons (.var 3) .nil))))) .nil))) .nil) .nil) (.cons (.iff (.cmp .ne (.var 6) (.lit (.str []))) (.cons (.ret (.tup (.cons (.tup (.cons (.lit (.str [115, 101, 110, 100])) (.cons (.var 5) (.cons (.var 7) (.cons (.var 3) .nil))))) (.cons (.tup (.cons (.lit (.str [116, 97, 107, 101])) (.cons (.var 5) (.cons (.var 7) (.cons (.var 3) .nil))))) .nil)))) .nil) .nil) .nil))))) (.cons (.ret (.lit .non)) .nil))))
def n21 : List Str := ["part", "hands", "sign", "word", "mark", "one", "between", "other"]
/-- row_in -/
def b22 : CSs := (.cons (.iff (.cmp .eq (.var 0) (.lit (.str [45]))) (.cons (.ret (.tup .nil)) .nil) .nil) (.cons (.asg (.nm 1) (.tup .nil)) (.cons (.fo (.nm 2) (.val (.me .split (.var 0) (.cons (.lit (.str [32])) .nil))) (.cons (.asg (.nm 3) (.call 21 (.cons (.var 2) .nil))) (.cons (.iff (.or (.cmp .is (.var 3) (.lit .non)) (.not (.call 12 (.cons (.var 3) .nil)))) (.cons (.ret (.lit .non)) .nil) .nil) (.cons (.asg (.nm 1) (.bin .add (.var 1) (.var 3))) .nil)))) (.cons (.ret (.var 1)) .nil))))
def n22 : List Str := ["text", "found", "part", "deeds"]
/-- read_row; not told: Raise: raise NoText('no text of a row') -/
def b23 : CSs := (.cons (.asg (.nm 1) (.lit .non)) (.cons (.iff (.bi (.isi .str) (.cons (.var 0) .nil)) (.cons (.asg (.nm 1) (.call 22 (.cons (.var 0) .nil))) .nil) .nil) (.cons (.iff (.cmp .is (.var 1) (.lit .non)) (.cons .bad .nil) .nil) (.cons (.ret (.var 1)) .nil))))
def n23 : List Str := ["text", "found"]
/-- _law_part -/
def b24 : CSs := (.cons (.asg (.tup [1, 2, 3, 4]) (.var 0)) (.cons (.iff (.cmp .eq (.var 1) (.lit (.str [115, 101, 110, 100]))) (.cons (.ret (.bin .add (.bin .add (.bin .add (.bin .add (.var 2) (.lit (.str [33]))) (.var 3)) (.lit (.str [58]))) (.var 4))) .nil) .nil) (.cons (.ret (.bin .add (.bin .add (.bin .add (.bin .add (.var 3) (.lit (.str [63]))) (.var 2)) (.lit (.str [58]))) (.var 4))) .nil)))
def n24 : List Str := ["_law_deed", "_law_kind", "_law_one", "_law_other", "_law_word"]
/-- _law_text -/
def b25 : CSs := (.cons (.asg (.nm 1) (.lst .nil)) (.cons (.fo (.nm 2) (.range1 (.bi .len (.cons (.var 0) .nil))) (.cons (.asg (.nm 3) (.and (.cmp .gt (.var 2) (.lit (.int 0))) (.and (.cmp .eq (.ix (.var 0) (.var 2)) (.bin .add (.tup (.cons (.lit (.str [116, 97, 107, 101])) .nil)) (.sl (.ix (.var 0) (.bin .sub (.var 2) (.lit (.int 1)))) (.ex (.lit (.int 1))) .no))) (.cmp .eq (.ix (.ix (.var 0) (.bin .sub (.var 2) (.lit (.int 1)))) (.lit (.int 0))) (.lit (.str [115, 101, 110, 100])))))) (.cons (.asg (.nm 4) (.and (.cmp .lt (.bin .add (.var 2) (.lit (.int 1))) (.bi .len (.cons (.var 0) .nil))) (.and (.cmp .eq (.ix (.ix (.var 0) (.var 2)) (.lit (.int 0))) (.lit (.str [115, 101, 110, 100]))) (.cmp .eq (.ix (.var 0) (.bin .add (.var 2) (.lit (.int 1)))) (.bin .add (.tup (.cons (.lit (.str [116, 97, 107, 101])) .nil)) (.sl (.ix (.var 0) (.var 2)) (.ex (.lit (.int 1))) .no)))))) (.cons (.iff (.var 4) (.cons (.expr (.me .append (.var 1) (.cons (.bin .add (.bin .add (.bin .add (.bin .add (.ix (.ix (.var 0) (.var 2)) (.lit (.int 1))) (.lit (.str [62]))) (.ix (.ix (.var 0) (.var 2)) (.lit (.int 2)))) (.lit (.str [58]))) (.ix (.ix (.var 0) (.var 2)) (.lit (.int 3)))) .nil))) .nil) (.cons (.iff (.not (.var 3)) (.cons (.expr (.me .append (.var 1) (.cons (.call 24 (.cons (.ix (.var 0) (.var 2)) .nil)) .nil))) .nil) .nil) .nil)) .nil)))) (.cons (.iff (.cmp .eq (.var 1) (.lst .nil)) (.cons (.ret (.lit (.str [45]))) .nil) .nil) (.cons (.ret (.me .join (.lit (.str [32])) (.cons (.var 1) .nil))) .nil))))
def n25 : List Str := ["_law_row", "_law_parts", "_law_k", "_law_taken", "_law_both"]
/-- _law_alone -/
def b26 : CSs := (.cons (.iff (.cmp .eq (.var 0) (.tup .nil)) (.cons (.ret (.lit (.str [45]))) .nil) .nil) (.cons (.ret (.me .join (.lit (.str [32])) (.cons (.comp (.call 24 (.cons (.var 1) .nil)) 1 (.val (.var 0)) (.lit (.bl true))) .nil))) .nil))
def n26 : List Str := ["_law_row", "_law_deed"]
/-- law -/
def b27 : CSs := (.cons (.fo (.nm 1) (.val (.bin .add (.lst (.cons (.lit (.int 0)) .nil)) (.sl (.var 0) .no (.ex (.lit (.int 10)))))) (.cons (.asg (.nm 2) (.call 4 (.cons (.var 1) .nil))) (.cons (.asg (.nm 3) (.call 7 (.cons (.var 2) (.cons (.bin .add (.lit (.int 2)) (.call 5 (.cons (.var 2) (.cons (.lit (.int 3)) .nil)))) .nil)))) (.cons (.asg (.nm 4) (.call 7 (.cons (.var 2) (.cons (.bin .add (.lit (.int 1)) (.call 5 (.cons (.var 2) (.cons (.lit (.int 3)) .nil)))) .nil)))) (.cons (.asg (.nm 5) (.call 13 (.cons (.var 2) (.cons (.var 3) (.cons (.var 4) (.cons (.lit (.int 32)) .nil)))))) (.cons (.asg (.nm 6) (.call 25 (.cons (.var 5) .nil))) (.cons (.asg (.nm 7) (.call 23 (.cons (.var 6) .nil))) (.cons (.iff (.or (.cmp .ne (.call 20 (.cons (.var 5) .nil)) (.var 6)) (.or (.cmp .ne (.var 7) (.var 5)) (.not (.bi (.isi .tup) (.cons (.var 7) .nil))))) (.cons (.ret (.lit (.bl false))) .nil) .nil) (.cons (.iff (.or (.not (.bi .all (.cons (.comp (.bi (.isi .tup) (.cons (.var 8) .nil)) 8 (.val (.var 7)) (.lit (.bl true))) .nil))) (.cmp .ne (.call 20 (.cons (.var 7) .nil)) (.var 6))) (.cons (.ret (.lit (.bl false))) .nil) .nil) (.cons (.iff (.cmp .ne (.call 23 (.cons (.call 26 (.cons (.var 5) .nil)) .nil)) (.var 5)) (.cons (.ret (.lit (.bl false))) .nil) .nil) .nil)))))))))) (.cons (.ret (.and (.cmp .eq (.call 20 (.cons (.tup .nil) .nil)) (.lit (.str [45]))) (.cmp .eq (.call 23 (.cons (.lit (.str [45])) .nil)) (.tup .nil)))) .nil))
def n27 : List Str := ["_law_script", "_law_cell", "_law_pool_here", "_law_hands_here", "_law_words", "_law_row", "_law_text_here", "_law_found", "_law_deed"]
/-- _law_parts -/
def b41 : CSs := (.cons (.iff (.cmp .eq (.var 0) (.tup .nil)) (.cons (.ret (.lst .nil)) .nil) .nil) (.cons (.ret (.me .split (.call 20 (.cons (.var 0) .nil)) (.cons (.lit (.str [32])) .nil))) .nil))
def n41 : List Str := ["_law_row"]
/-- _law_called -/
def b42 : CSs := (.cons (.ret (.bi .tuple (.cons (.comp (.bin .add (.sl (.var 2) .no (.ex (.lit (.int 1)))) (.bi .tuple (.cons (.comp (.ix (.var 1) (.var 3)) 3 (.val (.sl (.var 2) (.ex (.lit (.int 1))) .no)) (.lit (.bl true))) .nil))) 2 (.val (.var 0)) (.lit (.bl true))) .nil))) .nil)
def n42 : List Str := ["_law_row", "_law_called_here", "_law_deed", "_law_part"]
/-- _law_signs -/
def b43 : CSs := (.cons (.ret (.comp (.var 1) 1 (.val (.var 0)) (.cmp .isin (.var 1) (.lit (.str [33, 63, 62, 32, 45]))))) .nil)
def n43 : List Str := ["_law_text", "_law_sign"]
/-- _law_right -/
def b44 : CSs := (.cons (.asg (.nm 3) (.call 41 (.cons (.bin .add (.var 0) (.var 1)) .nil))) (.cons (.asg (.nm 4) (.and (.cmp .ne (.var 0) (.tup .nil)) (.and (.cmp .ne (.var 1) (.tup .nil)) (.and (.cmp .eq (.ix (.ix (.var 0) (.neg (.lit (.int 1)))) (.lit (.int 0))) (.lit (.str [115, 101, 110, 100]))) (.cmp .eq (.ix (.var 1) (.lit (.int 0))) (.bin .add (.tup (.cons (.lit (.str [116, 97, 107, 101])) .nil)) (.sl (.ix (.var 0) (.neg (.lit (.int 1)))) (.ex (.lit (.int 1))) .no))))))) (.cons (.iff (.cmp .ne (.bi .len (.cons (.var 3) .nil)) (.bin .sub (.bin .add (.bi .len (.cons (.call 41 (.cons (.var 0) .nil)) .nil)) (.bi .len (.cons (.call 41 (.cons (.var 1) .nil)) .nil))) (.bi .int (.cons (.var 4) .nil)))) (.cons (.ret (.lit (.bl false))) .nil) .nil) (.cons (.iff (.and (.not (.var 4)) (.cmp .ne (.var 3) (.bin .add (.call 41 (.cons (.var 0) .nil)) (.call 41 (.cons (.var 1) .nil))))) (.cons (.ret (.lit (.bl false))) .nil) .nil) (.cons (.iff (.or (.cmp .ne (.call 23 (.cons (.call 20 (.cons (.bin .add (.var 0) (.var 1)) .nil)) .nil)) (.bin .add (.var 0) (.var 1))) (.cmp .ne (.cmp .eq (.call 20 (.cons (.var 0) .nil)) (.call 20 (.cons (.var 1) .nil))) (.cmp .eq (.var 0) (.var 1)))) (.cons (.ret (.lit (.bl false))) .nil) .nil) (.cons (.fo (.nm 5) (.val (.lst (.cons (.var 0) (.cons (.var 1) (.cons (.bin .add (.var 0) (.var 1)) .nil))))) (.cons (.iff (.cmp .ne (.call 43 (.cons (.call 20 (.cons (.call 42 (.cons (.var 5) (.cons (.var 2) .nil))) .nil)) .nil)) (.call 43 (.cons (.call 20 (.cons (.var 5) .nil)) .nil))) (.cons (.ret (.lit (.bl false))) .nil) .nil) .nil)) (.cons (.ret (.lit (.bl true))) .nil)))))))
def n44 : List Str := ["_law_one", "_law_other", "_law_called_here", "_law_both", "_law_met", "_law_row"]
/-- law -/
def b45 : CSs := (.cons (.fo (.nm 1) (.val (.bin .add (.lst (.cons (.lit (.int 0)) .nil)) (.sl (.var 0) .no (.ex (.lit (.int 10)))))) (.cons (.asg (.nm 2) (.call 4 (.cons (.var 1) .nil))) (.cons (.asg (.nm 3) (.call 7 (.cons (.var 2) (.cons (.bin .add (.lit (.int 2)) (.call 5 (.cons (.var 2) (.cons (.lit (.int 3)) .nil)))) .nil)))) (.cons (.asg (.nm 4) (.call 7 (.cons (.var 2) (.cons (.bin .add (.lit (.int 1)) (.call 5 (.cons (.var 2) (.cons (.lit (.int 3)) .nil)))) .nil)))) (.cons (.asg (.nm 5) (.call 13 (.cons (.var 2) (.cons (.var 3) (.cons (.var 4) (.cons (.lit (.int 14)) .nil)))))) (.cons (.asg (.nm 6) (.call 13 (.cons (.var 2) (.cons (.var 3) (.cons (.var 4) (.cons (.lit (.int 14)) .nil)))))) (.cons (.iff (.and (.cmp .ne (.var 5) (.tup .nil)) (.cmp .eq (.call 5 (.cons (.var 2) (.cons (.lit (.int 3)) .nil))) (.lit (.int 1)))) (.cons (.asg (.nm 6) (.bin .add (.tup (.cons (.bin .add (.tup (.cons (.lit (.str [116, 97, 107, 101])) .nil)) (.sl (.ix (.var 5) (.neg (.lit (.int 1)))) (.ex (.lit (.int 1))) .no)) .nil)) (.var 6))) .nil) .nil) (.cons (.asg (.nm 7) (.bi .sorted (.cons (.bi .set (.cons (.bin .add (.var 3) (.var 4)) .nil)) .nil))) (.cons (.asg (.nm 8) (.bi .dict1 (.cons (.comp (.tup (.cons (.ix (.var 7) (.var 9)) (.cons (.bin .add (.ix (.lit (.str [97, 98, 99, 100, 101, 102, 103, 104])) (.var 9)) (.sl (.lit (.str [113, 114])) .no (.ex (.bin .mod (.var 9) (.lit (.int 3)))))) .nil))) 9 (.range1 (.bi .len (.cons (.var 7) .nil))) (.lit (.bl true))) .nil))) (.cons (.iff (.or (.not (.call 44 (.cons (.var 5) (.cons (.var 6) (.cons (.var 8) .nil))))) (.not (.call 44 (.cons (.var 6) (.cons (.var 5) (.cons (.var 8) .nil)))))) (.cons (.ret (.lit (.bl false))) .nil) .nil) .nil)))))))))) (.cons (.ret (.lit (.bl true))) .nil))
def n45 : List Str := ["_law_script", "_law_cell", "_law_pool_here", "_law_hands_here", "_law_words", "_law_one", "_law_other", "_law_names", "_law_called_here", "_law_k"]
end TH

namespace TH
open PySem
/-! ### pools -/
/-- a pool that stands at p -/
def Pool (h : CH) (p : Nat) : Prop := ∃ a b c : Int, h[p]? = some (.lst [.int a, .int b, .int c]) ∧ 0 ≤ a ∧ 0 ≤ b ∧ b < 1000000403 ∧ 0 ≤ c ∧ c < 1000000513
theorem Pool.keep {S : List Nat} {h h' : CH} {p : Nat} (q : Pool h p) (o : Off S h h') (n : p ∉ S) : Pool h' p := by
  obtain ⟨a, b, c, e, r⟩ := q
  exact ⟨a, b, c, o.get e n, r⟩
theorem Pool.lt {h : CH} {p : Nat} (q : Pool h p) : p < h.length := by
  obtain ⟨a, b, c, e, r⟩ := q
  exact lt_of e
theorem b64_of' {i : Int} (h1 : -18446744073709551616 < i) (h2 : i < 18446744073709551616) : b64 i = true := by
  unfold b64
  simp only [Bool.and_eq_true, decide_eq_true_eq]
  exact ⟨h1, h2⟩
theorem b64_r {i : Int} {j : Int} (h : b64 j = true) : (b64 i || b64 j) = true := by rw [h, Bool.or_true]
theorem b64_l {i : Int} {j : Int} (h : b64 i = true) : (b64 i || b64 j) = true := by rw [h, Bool.true_or]
theorem b_abs {i : Int} {h : CH} : biV .abs [.int i] h = some (.int (if i < 0 then -i else i), h) := rfl
theorem run_pool (F : Fns) (W : Nat) (i : Int) (h : CH) : ∃ h', runC F W n4.length b4 [.int i] h = some (.ref h.length, h') ∧ Off [] h h' ∧ Pool h' h.length := by
  have hp : (10 : Int) ^ (18 : Int).toNat = 1000000000000000000 := by decide
  have h48 : b64 48271 = true := by decide
  have fin : ∀ a : Int, 0 ≤ a → ∃ h', some (CV.ref h.length, h ++ [CO.lst [.int a, .int (i % 1000000403), .int ((i % 1000000403 * 48271 + 12345) % 1000000513)]]) = some (.ref h.length, h') ∧ Off [] h h' ∧ Pool h' h.length := fun a ha =>
    ⟨_, rfl, Off.app _ _ _, a, _, _, get_new, ha, Int.emod_nonneg _ (by decide), Int.emod_lt_of_pos _ (by decide), Int.emod_nonneg _ (by decide), Int.emod_lt_of_pos _ (by decide)⟩
  by_cases h0 : i < 0
  · simp only [b4, n4, h0, v_mod (show (0 : Int) < 1000000403 by decide), v_mod (show (0 : Int) < 1000000513 by decide), v_mul (b64_r h48), b_abs, if_true, run_eq, List.length_cons, List.length_nil, List.map_cons, List.map_nil, List.cons_append, List.nil_append, List.replicate, List.set_cons_zero, List.set_cons_succ, x_cons, x_nil, seqC_nx, seqC_rt, x_asg, asgK_nm, asgK_sub, retS_some, retH_some, sub1_eq, sub2_eq, x_expr, exK_eq, x_ret, retK_eq, x_retn, x_iff, iffK_t, iffK_f, x_fo, x_pas, x_par, runK_nx, runK_rt, bindE_some, bindL_some, bindO_some, bindI_some, bindB_some, liftB_some, retV_some, asB_bl, bin1_eq, e_bin, cmpK_eq, cmp1_eq, e_cmp, cmpR_t, cmpR_f, cmp2a_eq, e_cmp2, cmpR3_t, cmpR3_f, cmp3a_eq, e_cmp3, e_and, e_or, andK_t, andK_f, orK_t, orK_f, bOut_eq, notK_eq, e_not, negK_int, e_neg, iteK_t, iteK_f, e_ite, tupK2_eq, e_tup, lstK_eq, e_lst, e_dct0, ixK_eq, ix1_eq, e_ix, sl1_eq, sl2_eq, e_sl, e_rev, o_no, o_ex, oK_int, e_call, e_bi, e_me, s_nil, s_cons, consA_eq, consB_eq, e_lit, e_glob, e_var0, e_varS, e_comp, i_range1, i_range2, r2a_eq, i_val, vK_tup, vK_str, t_lit, t_cmp, t_cmp2, t_cmp3, t_call, t_bi, t_var, t_and, t_or, t_not, andT_t, andT_f, orT_t, orT_f, notT_eq, v_add, v_sub, c_lt, c_le, c_gt, c_ge, c_eqI, c_neI, c_eqS, c_neS, c_isN, c_isnotN, c_isB, c_isnotB, x_tup, x_lstV, sl_lstV, sl_tup, b_lenT, b_lenV, decide_true, decide_false, Bool.not_true, Bool.not_false]
    exact fin _ (by omega)
  · by_cases h1 : (1000000000000000000 : Int) ≤ i
    · simp only [b4, n4, h0, h1, hp, v_pow (show (0 : Int) ≤ 18 ∧ (18 : Int) ≤ 1000000 ∧ (10 : Int).natAbs < 2 ^ 64 by decide), v_mod (show (0 : Int) < 1000000403 by decide), v_mod (show (0 : Int) < 1000000513 by decide), v_mul (b64_r h48), b_abs, if_false, run_eq, List.length_cons, List.length_nil, List.map_cons, List.map_nil, List.cons_append, List.nil_append, List.replicate, List.set_cons_zero, List.set_cons_succ, x_cons, x_nil, seqC_nx, seqC_rt, x_asg, asgK_nm, asgK_sub, retS_some, retH_some, sub1_eq, sub2_eq, x_expr, exK_eq, x_ret, retK_eq, x_retn, x_iff, iffK_t, iffK_f, x_fo, x_pas, x_par, runK_nx, runK_rt, bindE_some, bindL_some, bindO_some, bindI_some, bindB_some, liftB_some, retV_some, asB_bl, bin1_eq, e_bin, cmpK_eq, cmp1_eq, e_cmp, cmpR_t, cmpR_f, cmp2a_eq, e_cmp2, cmpR3_t, cmpR3_f, cmp3a_eq, e_cmp3, e_and, e_or, andK_t, andK_f, orK_t, orK_f, bOut_eq, notK_eq, e_not, negK_int, e_neg, iteK_t, iteK_f, e_ite, tupK2_eq, e_tup, lstK_eq, e_lst, e_dct0, ixK_eq, ix1_eq, e_ix, sl1_eq, sl2_eq, e_sl, e_rev, o_no, o_ex, oK_int, e_call, e_bi, e_me, s_nil, s_cons, consA_eq, consB_eq, e_lit, e_glob, e_var0, e_varS, e_comp, i_range1, i_range2, r2a_eq, i_val, vK_tup, vK_str, t_lit, t_cmp, t_cmp2, t_cmp3, t_call, t_bi, t_var, t_and, t_or, t_not, andT_t, andT_f, orT_t, orT_f, notT_eq, v_add, v_sub, c_lt, c_le, c_gt, c_ge, c_eqI, c_neI, c_eqS, c_neS, c_isN, c_isnotN, c_isB, c_isnotB, x_tup, x_lstV, sl_lstV, sl_tup, b_lenT, b_lenV, decide_true, decide_false, Bool.not_true, Bool.not_false]
      exact fin _ (by omega)
    · simp only [b4, n4, h0, h1, hp, v_pow (show (0 : Int) ≤ 18 ∧ (18 : Int) ≤ 1000000 ∧ (10 : Int).natAbs < 2 ^ 64 by decide), v_mod (show (0 : Int) < 1000000403 by decide), v_mod (show (0 : Int) < 1000000513 by decide), v_mul (b64_r h48), b_abs, if_false, run_eq, List.length_cons, List.length_nil, List.map_cons, List.map_nil, List.cons_append, List.nil_append, List.replicate, List.set_cons_zero, List.set_cons_succ, x_cons, x_nil, seqC_nx, seqC_rt, x_asg, asgK_nm, asgK_sub, retS_some, retH_some, sub1_eq, sub2_eq, x_expr, exK_eq, x_ret, retK_eq, x_retn, x_iff, iffK_t, iffK_f, x_fo, x_pas, x_par, runK_nx, runK_rt, bindE_some, bindL_some, bindO_some, bindI_some, bindB_some, liftB_some, retV_some, asB_bl, bin1_eq, e_bin, cmpK_eq, cmp1_eq, e_cmp, cmpR_t, cmpR_f, cmp2a_eq, e_cmp2, cmpR3_t, cmpR3_f, cmp3a_eq, e_cmp3, e_and, e_or, andK_t, andK_f, orK_t, orK_f, bOut_eq, notK_eq, e_not, negK_int, e_neg, iteK_t, iteK_f, e_ite, tupK2_eq, e_tup, lstK_eq, e_lst, e_dct0, ixK_eq, ix1_eq, e_ix, sl1_eq, sl2_eq, e_sl, e_rev, o_no, o_ex, oK_int, e_call, e_bi, e_me, s_nil, s_cons, consA_eq, consB_eq, e_lit, e_glob, e_var0, e_varS, e_comp, i_range1, i_range2, r2a_eq, i_val, vK_tup, vK_str, t_lit, t_cmp, t_cmp2, t_cmp3, t_call, t_bi, t_var, t_and, t_or, t_not, andT_t, andT_f, orT_t, orT_f, notT_eq, v_add, v_sub, c_lt, c_le, c_gt, c_ge, c_eqI, c_neI, c_eqS, c_neS, c_isN, c_isnotN, c_isB, c_isnotB, x_tup, x_lstV, sl_lstV, sl_tup, b_lenT, b_lenV, decide_true, decide_false, Bool.not_true, Bool.not_false]
      exact fin _ (by omega)
theorem run_draw (F : Fns) (W : Nat) {h : CH} {p : Nat} {t : Int} (q : Pool h p) (ht : 0 < t) (ht2 : t < 1073741824) : ∃ n h', runC F W n5.length b5 [.ref p, .int t] h = some (.int n, h') ∧ 0 ≤ n ∧ n < t ∧ Off [p] h h' ∧ Pool h' p := by
  obtain ⟨a, b, c, e, ha, hb, hb2, hc, hc2⟩ := q
  have i0 : atI [CV.int a, .int b, .int c] 0 = some (.int a) := rfl
  have i1 : atI [CV.int a, .int b, .int c] 1 = some (.int b) := rfl
  have i2 : atI [CV.int a, .int b, .int c] 2 = some (.int c) := rfl
  have lp := lt_of e
  by_cases h0 : 0 < a
  · simp only [b5, n5, x_lst e, i0, h0, v_mod ht, v_fdiv ht ht2, set_lst e (show ixN ([CV.int a, .int b, .int c]).length 0 = some 0 from rfl), run_eq, List.length_cons, List.length_nil, List.map_cons, List.map_nil, List.cons_append, List.nil_append, List.replicate, List.set_cons_zero, List.set_cons_succ, x_cons, x_nil, seqC_nx, seqC_rt, x_asg, asgK_nm, asgK_sub, retS_some, retH_some, sub1_eq, sub2_eq, x_expr, exK_eq, x_ret, retK_eq, x_retn, x_iff, iffK_t, iffK_f, x_fo, x_pas, x_par, runK_nx, runK_rt, bindE_some, bindL_some, bindO_some, bindI_some, bindB_some, liftB_some, retV_some, asB_bl, bin1_eq, e_bin, cmpK_eq, cmp1_eq, e_cmp, cmpR_t, cmpR_f, cmp2a_eq, e_cmp2, cmpR3_t, cmpR3_f, cmp3a_eq, e_cmp3, e_and, e_or, andK_t, andK_f, orK_t, orK_f, bOut_eq, notK_eq, e_not, negK_int, e_neg, iteK_t, iteK_f, e_ite, tupK2_eq, e_tup, lstK_eq, e_lst, e_dct0, ixK_eq, ix1_eq, e_ix, sl1_eq, sl2_eq, e_sl, e_rev, o_no, o_ex, oK_int, e_call, e_bi, e_me, s_nil, s_cons, consA_eq, consB_eq, e_lit, e_glob, e_var0, e_varS, e_comp, i_range1, i_range2, r2a_eq, i_val, vK_tup, vK_str, t_lit, t_cmp, t_cmp2, t_cmp3, t_call, t_bi, t_var, t_and, t_or, t_not, andT_t, andT_f, orT_t, orT_f, notT_eq, v_add, v_sub, c_lt, c_le, c_gt, c_ge, c_eqI, c_neI, c_eqS, c_neS, c_isN, c_isnotN, c_isB, c_isnotB, x_tup, x_lstV, sl_lstV, sl_tup, b_lenT, b_lenV, decide_true, decide_false, Bool.not_true, Bool.not_false]
    exact ⟨_, _, rfl, Int.emod_nonneg _ (by omega), Int.emod_lt_of_pos _ ht, Off.set (by simp), _, _, _, List.getElem?_set_self lp, Int.ediv_nonneg ha (by omega), hb, hb2, hc, hc2⟩
  · generalize eb : (b * 40014 + c + 7) % 1000000403 = b'
    have hb' : 0 ≤ b' ∧ b' < 1000000403 := by subst eb; exact ⟨Int.emod_nonneg _ (by decide), Int.emod_lt_of_pos _ (by decide)⟩
    generalize ec : (c * 40699 + b' * b' % 65537 + 1) % 1000000513 = c'
    have hc' : 0 ≤ c' ∧ c' < 1000000513 := by subst ec; exact ⟨Int.emod_nonneg _ (by decide), Int.emod_lt_of_pos _ (by decide)⟩
    have g1 : (h.set p (.lst [.int a, .int b', .int c]))[p]? = some (.lst [.int a, .int b', .int c]) := List.getElem?_set_self lp
    have s1 := set_lst (v := .int b') e (show ixN ([CV.int a, .int b, .int c]).length 1 = some 1 from rfl)
    simp only [List.set_cons_succ, List.set_cons_zero] at s1
    have s2 := set_lst (v := .int c') g1 (show ixN ([CV.int a, .int b', .int c]).length 2 = some 2 from rfl)
    simp only [List.set_cons_succ, List.set_cons_zero, List.set_set] at s2
    have g2 : (h.set p (.lst [.int a, .int b', .int c']))[p]? = some (.lst [.int a, .int b', .int c']) := List.getElem?_set_self lp
    have j1 : atI [CV.int a, .int b', .int c] 1 = some (.int b') := rfl
    have j2 : atI [CV.int a, .int b', .int c] 2 = some (.int c) := rfl
    have k1 : atI [CV.int a, .int b', .int c'] 1 = some (.int b') := rfl
    have k2 : atI [CV.int a, .int b', .int c'] 2 = some (.int c') := rfl
    simp only [b5, n5, x_lst e, x_lst g1, x_lst g2, i0, i1, i2, j1, j2, k1, k2, h0, v_mul (b64_r (show b64 40014 = true by decide)), v_mul (b64_r (show b64 40699 = true by decide)), v_mul (b64_l (show b64 7 = true by decide)), v_mul (b64_l (b64_of' (i := b') (by omega) (by omega))), v_mod (show (0 : Int) < 65537 by decide), v_mod (show (0 : Int) < 1000000403 by decide), v_mod (show (0 : Int) < 1000000513 by decide), eb, ec, s1, s2, v_fdiv (show (0 : Int) < 16 by decide) (show (16 : Int) < 1073741824 by decide), v_mod ht, run_eq, List.length_cons, List.length_nil, List.map_cons, List.map_nil, List.cons_append, List.nil_append, List.replicate, List.set_cons_zero, List.set_cons_succ, x_cons, x_nil, seqC_nx, seqC_rt, x_asg, asgK_nm, asgK_sub, retS_some, retH_some, sub1_eq, sub2_eq, x_expr, exK_eq, x_ret, retK_eq, x_retn, x_iff, iffK_t, iffK_f, x_fo, x_pas, x_par, runK_nx, runK_rt, bindE_some, bindL_some, bindO_some, bindI_some, bindB_some, liftB_some, retV_some, asB_bl, bin1_eq, e_bin, cmpK_eq, cmp1_eq, e_cmp, cmpR_t, cmpR_f, cmp2a_eq, e_cmp2, cmpR3_t, cmpR3_f, cmp3a_eq, e_cmp3, e_and, e_or, andK_t, andK_f, orK_t, orK_f, bOut_eq, notK_eq, e_not, negK_int, e_neg, iteK_t, iteK_f, e_ite, tupK2_eq, e_tup, lstK_eq, e_lst, e_dct0, ixK_eq, ix1_eq, e_ix, sl1_eq, sl2_eq, e_sl, e_rev, o_no, o_ex, oK_int, e_call, e_bi, e_me, s_nil, s_cons, consA_eq, consB_eq, e_lit, e_glob, e_var0, e_varS, e_comp, i_range1, i_range2, r2a_eq, i_val, vK_tup, vK_str, t_lit, t_cmp, t_cmp2, t_cmp3, t_call, t_bi, t_var, t_and, t_or, t_not, andT_t, andT_f, orT_t, orT_f, notT_eq, v_add, v_sub, c_lt, c_le, c_gt, c_ge, c_eqI, c_neI, c_eqS, c_neS, c_isN, c_isnotN, c_isB, c_isnotB, x_tup, x_lstV, sl_lstV, sl_tup, b_lenT, b_lenV, decide_true, decide_false, Bool.not_true, Bool.not_false]
    exact ⟨_, _, rfl, Int.emod_nonneg _ (by omega), Int.emod_lt_of_pos _ ht, Off.set (by simp), _, _, _, g2, ha, hb'.1, hb'.2, hc'.1, hc'.2⟩
end TH

namespace TH
open PySem
/-! ### names -/
def al : List Nat := [97, 98, 99, 100, 101, 102, 103, 104, 105, 106, 107, 108, 109, 110, 111, 112, 113, 114, 115, 116, 117, 118, 119, 120, 121, 122]
/-- a name: one to eight letters -/
def Nm (k : List Nat) : Prop := 1 ≤ k.length ∧ k.length ≤ 8 ∧ ∀ c ∈ k, c ∈ al
theorem al_len : al.length = 26 := rfl
theorem al_at {n : Int} (h0 : 0 ≤ n) (h1 : n < 26) : ∃ c, atI al n = some c ∧ c ∈ al := by
  have hl : n.toNat < al.length := by rw [al_len]; omega
  exact ⟨al[n.toNat], by rw [atI_int al h0, List.getElem?_eq_getElem hl], List.getElem_mem hl⟩
theorem lim_big {n : Nat} (h : n ≤ 100000) : n ≤ lim := Nat.le_trans h (by decide)
theorem lim_lt {n : Nat} (h : n ≤ 100000) : n < lim := Nat.lt_of_le_of_lt h (by decide)
theorem take7 {k : List Nat} {c : Nat} (hk : Nm k) (hc : c ∈ al) : Nm (k.take 7 ++ [c]) := by
  refine ⟨by simp, ?_, fun x hx => ?_⟩
  · simp only [List.length_append, List.length_take, List.length_cons, List.length_nil]; omega
  · rcases List.mem_append.mp hx with h | h
    · exact hk.2.2 x (List.mem_of_mem_take h)
    · rw [List.mem_singleton.mp h]; exact hc
/-- of twenty-six there is one that is not among fewer -/
theorem nodup_len {α : Type} [DecidableEq α] : ∀ {xs ys : List α}, xs.Nodup → (∀ x ∈ xs, x ∈ ys) → xs.length ≤ ys.length
  | [], _, _, _ => Nat.zero_le _
  | x :: xs, ys, nd, h => by
    have h1 : x ∈ ys := h x List.mem_cons_self
    have h2 := nodup_len (xs := xs) (ys := ys.erase x) (List.nodup_cons.mp nd).2 fun y hy => by
      rw [List.mem_erase_of_ne]
      · exact h y (List.mem_cons_of_mem _ hy)
      · rintro rfl; exact (List.nodup_cons.mp nd).1 hy
    rw [List.length_erase_of_mem h1] at h2
    have : 0 < ys.length := List.length_pos_of_mem h1
    simp only [List.length_cons]
    omega
theorem al_nodup : al.Nodup := by decide
theorem some_free (k : List Nat) {ks : List (List Nat)} (hl : ks.length < 26) : ∃ c ∈ al, k.take 7 ++ [c] ∉ ks := by
  by_cases h : ∃ c ∈ al, k.take 7 ++ [c] ∉ ks
  · exact h
  · exfalso
    have h' : ∀ x ∈ al.map (fun c => k.take 7 ++ [c]), x ∈ ks := by
      intro x hx
      obtain ⟨c, hc, rfl⟩ := List.mem_map.mp hx
      by_cases z : k.take 7 ++ [c] ∈ ks
      · exact z
      · exact absurd ⟨c, hc, z⟩ h
    have nd : (al.map (fun c => k.take 7 ++ [c])).Nodup := by
      rw [List.nodup_iff_pairwise_ne, List.pairwise_map]
      refine List.Pairwise.imp ?_ (List.nodup_iff_pairwise_ne.mp al_nodup)
      intro a b hab e
      have := List.append_cancel_left e
      simp at this
      exact hab this
    have := nodup_len nd h'
    simp [al_len] at this
    omega
/-- the new name is made, then mended to be new -/
theorem run_name (F : Fns) (W : Nat) (hF : ∀ (h : CH) (p : Nat) (t : Int), Pool h p → 0 < t → t < 1073741824 → ∃ n h', F 5 [.ref p, .int t] h = some (.int n, h') ∧ 0 ≤ n ∧ n < t ∧ Off [p] h h' ∧ Pool h' p)
    {h : CH} {p r : Nat} {ks : List (List Nat)} (q : Pool h p) (hr : h[r]? = some (.lst (ks.map .str))) (hpr : r ≠ p) (hl : ks.length < 26) (hk : ∀ k ∈ ks, Nm k) :
    ∃ k h', runC F W n6.length b6 [.ref p, .ref r] h = some (.str k, h') ∧ Nm k ∧ k ∉ ks ∧ Off [p] h h' ∧ Pool h' p := by
  -- the second half
  have fin : ∀ (k : List Nat) (h1 : CH), Nm k → Off [p] h h1 → Pool h1 p → h1[r]? = some (.lst (ks.map .str)) → ∃ k2 h', runK (execCs F W (.cons (.asg (.nm 4) (.bin .add (.lst (.cons (.var 3) .nil)) (.comp (.bin .add (.sl (.var 3) .no (.ex (.lit (.int 7)))) (.var 6)) 6 (.val (.var 2)) (.lit (.bl true))))) (.cons (.ret (.ix (.comp (.var 7) 7 (.val (.var 4)) (.cmp .notin (.var 7) (.var 1))) (.lit (.int 0)))) .nil)) [some (.ref p), some (.ref r), some (.str al), some (.str k), none, none, none, none] h1) = some (.str k2, h') ∧ Nm k2 ∧ k2 ∉ ks ∧ Off [p] h h' ∧ Pool h' p := by
    intro k h1 hkn o1 q1 hr1
    have hlen : k.length ≤ lim := lim_big (by have := hkn.2.1; omega)
    have e1 := comp_all (F := F) (s := [some (.ref p), some (.ref r), some (.str al), some (.str k), none, none, none, none]) (h := h1 ++ [CO.lst [.str k]]) (elt := .bin .add (.sl (.var 3) .no (.ex (.lit (.int 7)))) (.var 6)) (i := 6) (src := .str al) (xs := al.map fun c => CV.str [c])
      (fun x => match x with | .str t => .str (k.take 7 ++ t) | x => x) (fun i => src_str) src_strL (by decide) (fun x hx => by
        obtain ⟨c, hc, rfl⟩ := List.mem_map.mp hx
        have := cut_to k 7
        simp only [run_eq, List.length_cons, List.length_nil, List.map_cons, List.map_nil, List.cons_append, List.nil_append, List.replicate, List.set_cons_zero, List.set_cons_succ, x_cons, x_nil, seqC_nx, seqC_rt, x_asg, asgK_nm, asgK_sub, retS_some, retH_some, sub1_eq, sub2_eq, x_expr, exK_eq, x_ret, retK_eq, x_retn, x_iff, iffK_t, iffK_f, x_fo, x_pas, x_par, runK_nx, runK_rt, bindE_some, bindL_some, bindO_some, bindI_some, bindB_some, liftB_some, retV_some, asB_bl, bin1_eq, e_bin, cmpK_eq, cmp1_eq, e_cmp, cmpR_t, cmpR_f, cmp2a_eq, e_cmp2, cmpR3_t, cmpR3_f, cmp3a_eq, e_cmp3, e_and, e_or, andK_t, andK_f, orK_t, orK_f, bOut_eq, notK_eq, e_not, negK_int, e_neg, iteK_t, iteK_f, e_ite, tupK2_eq, e_tup, lstK_eq, e_lst, e_dct0, ixK_eq, ix1_eq, e_ix, sl1_eq, sl2_eq, e_sl, e_rev, o_no, o_ex, oK_int, e_call, e_bi, e_me, s_nil, s_cons, consA_eq, consB_eq, e_lit, e_glob, e_var0, e_varS, e_comp, i_range1, i_range2, r2a_eq, i_val, vK_tup, vK_str, t_lit, t_cmp, t_cmp2, t_cmp3, t_call, t_bi, t_var, t_and, t_or, t_not, andT_t, andT_f, orT_t, orT_f, notT_eq, v_add, v_sub, c_lt, c_le, c_gt, c_ge, c_eqI, c_neI, c_eqS, c_neS, c_isN, c_isnotN, c_isB, c_isnotB, x_tup, x_lstV, sl_lstV, sl_tup, b_lenT, b_lenV, decide_true, decide_false, Bool.not_true, Bool.not_false, sl_str hlen]
        rw [show cut k none (some 7) = k.take 7 from this]
        rw [v_addS (by simp only [List.length_take, List.length_cons, List.length_nil]; exact lim_big (by omega))])
    rw [List.map_map] at e1
    have e2 : (al.map ((fun x => match x with | CV.str t => CV.str (k.take 7 ++ t) | x => x) ∘ fun c => CV.str [c])) = (al.map fun c => k.take 7 ++ [c]).map CV.str := by rw [List.map_map]; rfl
    rw [e2] at e1
    generalize hc : (al.map fun c => k.take 7 ++ [c]) = cs at e1
    have hcl : cs.length = 26 := by rw [← hc, List.length_map]; rfl
    have g1 : ((h1 ++ [CO.lst [.str k]]) ++ [CO.lst (cs.map CV.str)])[h1.length]? = some (.lst [.str k]) := get_app get_new
    have g2 : ((h1 ++ [CO.lst [.str k]]) ++ [CO.lst (cs.map CV.str)])[(h1 ++ [CO.lst [.str k]]).length]? = some (.lst (cs.map CV.str)) := get_new
    have hlc : [CV.str k].length + (cs.map CV.str).length ≤ lim := by simp only [List.length_cons, List.length_nil, List.length_map, hcl]; exact lim_big (by omega)
    generalize hh2 : (h1 ++ [CO.lst [.str k]]) ++ [CO.lst (cs.map CV.str)] = h2 at g1 g2 e1
    have a1 : binV .add (.ref h1.length) (.ref (h1 ++ [CO.lst [.str k]]).length) h2 = some (.ref h2.length, h2 ++ [CO.lst (CV.str k :: cs.map CV.str)]) := v_addL g1 g2 hlc
    have hr2 : (h2 ++ [CO.lst (CV.str k :: cs.map CV.str)])[r]? = some (.lst (ks.map .str)) := by rw [← hh2]; exact get_app (get_app (get_app hr1))
    have g3 : (h2 ++ [CO.lst (CV.str k :: cs.map CV.str)])[h2.length]? = some (.lst (CV.str k :: cs.map CV.str)) := get_new
    have e3 := comp_map (F := F) (s := [some (.ref p), some (.ref r), some (.str al), some (.str k), some (.ref h2.length), none, none, none]) (h := h2 ++ [CO.lst (CV.str k :: cs.map CV.str)]) (elt := .var 7) (cond := .cmp .notin (.var 7) (.var 1)) (i := 7) (src := .cell h2.length) (xs := (k :: cs).map CV.str)
      (fun x => match x with | .str t => !decide (t ∈ ks) | _ => false) (fun x => x) (fun i => src_cell g3) (src_cellL g3) (by rw [List.length_map, List.length_cons, hcl]; exact lim_big (by omega)) (fun x hx => by
        obtain ⟨t, ht, rfl⟩ := List.mem_map.mp hx
        simp only [run_eq, List.length_cons, List.length_nil, List.map_cons, List.map_nil, List.cons_append, List.nil_append, List.replicate, List.set_cons_zero, List.set_cons_succ, x_cons, x_nil, seqC_nx, seqC_rt, x_asg, asgK_nm, asgK_sub, retS_some, retH_some, sub1_eq, sub2_eq, x_expr, exK_eq, x_ret, retK_eq, x_retn, x_iff, iffK_t, iffK_f, x_fo, x_pas, x_par, runK_nx, runK_rt, bindE_some, bindL_some, bindO_some, bindI_some, bindB_some, liftB_some, retV_some, asB_bl, bin1_eq, e_bin, cmpK_eq, cmp1_eq, e_cmp, cmpR_t, cmpR_f, cmp2a_eq, e_cmp2, cmpR3_t, cmpR3_f, cmp3a_eq, e_cmp3, e_and, e_or, andK_t, andK_f, orK_t, orK_f, bOut_eq, notK_eq, e_not, negK_int, e_neg, iteK_t, iteK_f, e_ite, tupK2_eq, e_tup, lstK_eq, e_lst, e_dct0, ixK_eq, ix1_eq, e_ix, sl1_eq, sl2_eq, e_sl, e_rev, o_no, o_ex, oK_int, e_call, e_bi, e_me, s_nil, s_cons, consA_eq, consB_eq, e_lit, e_glob, e_var0, e_varS, e_comp, i_range1, i_range2, r2a_eq, i_val, vK_tup, vK_str, t_lit, t_cmp, t_cmp2, t_cmp3, t_call, t_bi, t_var, t_and, t_or, t_not, andT_t, andT_f, orT_t, orT_f, notT_eq, v_add, v_sub, c_lt, c_le, c_gt, c_ge, c_eqI, c_neI, c_eqS, c_neS, c_isN, c_isnotN, c_isB, c_isnotB, x_tup, x_lstV, sl_lstV, sl_tup, b_lenT, b_lenV, decide_true, decide_false, Bool.not_true, Bool.not_false, c_notin (in_strsL hr2)]) (fun x hx _ => by simp only [run_eq, List.length_cons, List.length_nil, List.map_cons, List.map_nil, List.cons_append, List.nil_append, List.replicate, List.set_cons_zero, List.set_cons_succ, x_cons, x_nil, seqC_nx, seqC_rt, x_asg, asgK_nm, asgK_sub, retS_some, retH_some, sub1_eq, sub2_eq, x_expr, exK_eq, x_ret, retK_eq, x_retn, x_iff, iffK_t, iffK_f, x_fo, x_pas, x_par, runK_nx, runK_rt, bindE_some, bindL_some, bindO_some, bindI_some, bindB_some, liftB_some, retV_some, asB_bl, bin1_eq, e_bin, cmpK_eq, cmp1_eq, e_cmp, cmpR_t, cmpR_f, cmp2a_eq, e_cmp2, cmpR3_t, cmpR3_f, cmp3a_eq, e_cmp3, e_and, e_or, andK_t, andK_f, orK_t, orK_f, bOut_eq, notK_eq, e_not, negK_int, e_neg, iteK_t, iteK_f, e_ite, tupK2_eq, e_tup, lstK_eq, e_lst, e_dct0, ixK_eq, ix1_eq, e_ix, sl1_eq, sl2_eq, e_sl, e_rev, o_no, o_ex, oK_int, e_call, e_bi, e_me, s_nil, s_cons, consA_eq, consB_eq, e_lit, e_glob, e_var0, e_varS, e_comp, i_range1, i_range2, r2a_eq, i_val, vK_tup, vK_str, t_lit, t_cmp, t_cmp2, t_cmp3, t_call, t_bi, t_var, t_and, t_or, t_not, andT_t, andT_f, orT_t, orT_f, notT_eq, v_add, v_sub, c_lt, c_le, c_gt, c_ge, c_eqI, c_neI, c_eqS, c_neS, c_isN, c_isnotN, c_isB, c_isnotB, x_tup, x_lstV, sl_lstV, sl_tup, b_lenT, b_lenV, decide_true, decide_false, Bool.not_true, Bool.not_false])
    rw [List.map_id'] at e3
    have hfree : ∃ c ∈ k :: cs, c ∉ ks := by
      obtain ⟨c, hc1, hc2⟩ := some_free k hl
      exact ⟨_, List.mem_cons_of_mem _ (by rw [← hc]; exact List.mem_map.mpr ⟨c, hc1, rfl⟩), hc2⟩
    have efil : ((k :: cs).map CV.str).filter (fun x => match x with | .str t => !decide (t ∈ ks) | _ => false) = ((k :: cs).filter fun t => !decide (t ∈ ks)).map CV.str := by
      rw [List.filter_map]
      rfl
    rw [efil] at e3
    obtain ⟨k2, rest, e4⟩ : ∃ k2 rest, (k :: cs).filter (fun t => !decide (t ∈ ks)) = k2 :: rest := by
      obtain ⟨c, hc1, hc2⟩ := hfree
      cases e : (k :: cs).filter (fun t => !decide (t ∈ ks)) with
      | nil =>
        have z := (List.mem_filter (p := fun t => !decide (t ∈ ks))).mpr ⟨hc1, by rw [decide_eq_false hc2]; rfl⟩
        rw [e] at z
        cases z
      | cons a b => exact ⟨a, b, rfl⟩
    have hk2 : k2 ∈ (k :: cs).filter (fun t => !decide (t ∈ ks)) := by rw [e4]; exact List.mem_cons_self
    obtain ⟨m1, m2⟩ := List.mem_filter.mp hk2
    rw [e4] at e3
    have x0 := x_lst (i := 0) (get_new (h := h2 ++ [CO.lst (CV.str k :: cs.map CV.str)]) (o := CO.lst ((k2 :: rest).map CV.str)))
    rw [atI_int _ (by decide), show ((k2 :: rest).map CV.str)[(0 : Int).toNat]? = some (.str k2) from rfl, List.map_cons] at x0
    rw [List.map_cons] at e3
    simp only [run_eq, List.length_cons, List.length_nil, List.map_cons, List.map_nil, List.cons_append, List.nil_append, List.replicate, List.set_cons_zero, List.set_cons_succ, x_cons, x_nil, seqC_nx, seqC_rt, x_asg, asgK_nm, asgK_sub, retS_some, retH_some, sub1_eq, sub2_eq, x_expr, exK_eq, x_ret, retK_eq, x_retn, x_iff, iffK_t, iffK_f, x_fo, x_pas, x_par, runK_nx, runK_rt, bindE_some, bindL_some, bindO_some, bindI_some, bindB_some, liftB_some, retV_some, asB_bl, bin1_eq, e_bin, cmpK_eq, cmp1_eq, e_cmp, cmpR_t, cmpR_f, cmp2a_eq, e_cmp2, cmpR3_t, cmpR3_f, cmp3a_eq, e_cmp3, e_and, e_or, andK_t, andK_f, orK_t, orK_f, bOut_eq, notK_eq, e_not, negK_int, e_neg, iteK_t, iteK_f, e_ite, tupK2_eq, e_tup, lstK_eq, e_lst, e_dct0, ixK_eq, ix1_eq, e_ix, sl1_eq, sl2_eq, e_sl, e_rev, o_no, o_ex, oK_int, e_call, e_bi, e_me, s_nil, s_cons, consA_eq, consB_eq, e_lit, e_glob, e_var0, e_varS, e_comp, i_range1, i_range2, r2a_eq, i_val, vK_tup, vK_str, t_lit, t_cmp, t_cmp2, t_cmp3, t_call, t_bi, t_var, t_and, t_or, t_not, andT_t, andT_f, orT_t, orT_f, notT_eq, v_add, v_sub, c_lt, c_le, c_gt, c_ge, c_eqI, c_neI, c_eqS, c_neS, c_isN, c_isnotN, c_isB, c_isnotB, x_tup, x_lstV, sl_lstV, sl_tup, b_lenT, b_lenV, decide_true, decide_false, Bool.not_true, Bool.not_false, e1, a1, vK_lst g3, e3, x0]
    refine ⟨_, _, rfl, ?_, by simpa using m2, ?_, ?_⟩
    · rcases List.mem_cons.mp m1 with rfl | m1
      · exact hkn
      · rw [← hc] at m1
        obtain ⟨c, hc1, rfl⟩ := List.mem_map.mp m1
        exact take7 hkn hc1
    · refine o1.trans ?_
      rw [← hh2, List.append_assoc, List.append_assoc, List.append_assoc]
      exact Off.app _ _ _
    · rw [← hh2, List.append_assoc, List.append_assoc, List.append_assoc]
      exact q1.keep (Off.app [] _ _) (by simp)
  -- a name of letters that are drawn
  have made : ∀ (h1 : CH), Off [p] h h1 → Pool h1 p → ∃ k h', execC F W (.asg (.nm 3) (.me .join (.lit (.str [])) (.cons (.comp (.ix (.var 2) (.call 5 (.cons (.var 0) (.cons (.lit (.int 26)) .nil)))) 5 (.range1 (.bin .add (.lit (.int 1)) (.call 5 (.cons (.var 0) (.cons (.lit (.int 8)) .nil))))) (.lit (.bl true))) .nil))) [some (.ref p), some (.ref r), some (.str al), none, none, none, none, none] h1 = some (.nx, [some (.ref p), some (.ref r), some (.str al), some (.str k), none, none, none, none], h') ∧ Nm k ∧ Off [p] h h' ∧ Pool h' p := by
    intro h1 o1 q1
    obtain ⟨n, h2, e2, n0, n1, o2, q2⟩ := hF h1 p 8 q1 (by decide) (by decide)
    have sm : small62 (1 + n) = true := by unfold small62; simp only [Bool.and_eq_true, decide_eq_true_eq]; omega
    obtain ⟨acc, h3, e3, ks3, hacc, hlen3, hin3, o3, q3⟩ := comp_each (F := F) (s := [some (.ref p), some (.ref r), some (.str al), none, none, none, none, none]) (h := h2) (elt := .ix (.var 2) (.call 5 (.cons (.var 0) (.cons (.lit (.int 26)) .nil)))) (i := 5) (src := .ints 0 (1 + n).toNat)
      (fun j acc h' => ∃ ks3 : List (List Nat), acc = ks3.map CV.str ∧ ks3.length = j ∧ (∀ k ∈ ks3, ∃ c ∈ al, k = [c]) ∧ Off [p] h h' ∧ Pool h' p) (by rw [src_intsL]; exact lim_big (by omega)) ⟨[], rfl, rfl, (fun k hk => by cases hk), o1.trans o2, q2⟩
      (fun j acc h' hj hi => by
        rw [src_intsL] at hj
        obtain ⟨ks3, rfl, hl3, hin, o, q⟩ := hi
        obtain ⟨m, h4, e4, m0, m1, o4, q4⟩ := hF h' p 26 q (by decide) (by decide)
        obtain ⟨c, ec, hc⟩ := al_at m0 m1
        refine ⟨_, .str [c], h4, by rw [src_ints, if_pos hj], ?_, ks3 ++ [[c]], by simp, by simp [hl3], fun k hk => ?_, o.trans o4, q4⟩
        · simp only [run_eq, List.length_cons, List.length_nil, List.map_cons, List.map_nil, List.cons_append, List.nil_append, List.replicate, List.set_cons_zero, List.set_cons_succ, x_cons, x_nil, seqC_nx, seqC_rt, x_asg, asgK_nm, asgK_sub, retS_some, retH_some, sub1_eq, sub2_eq, x_expr, exK_eq, x_ret, retK_eq, x_retn, x_iff, iffK_t, iffK_f, x_fo, x_pas, x_par, runK_nx, runK_rt, bindE_some, bindL_some, bindO_some, bindI_some, bindB_some, liftB_some, retV_some, asB_bl, bin1_eq, e_bin, cmpK_eq, cmp1_eq, e_cmp, cmpR_t, cmpR_f, cmp2a_eq, e_cmp2, cmpR3_t, cmpR3_f, cmp3a_eq, e_cmp3, e_and, e_or, andK_t, andK_f, orK_t, orK_f, bOut_eq, notK_eq, e_not, negK_int, e_neg, iteK_t, iteK_f, e_ite, tupK2_eq, e_tup, lstK_eq, e_lst, e_dct0, ixK_eq, ix1_eq, e_ix, sl1_eq, sl2_eq, e_sl, e_rev, o_no, o_ex, oK_int, e_call, e_bi, e_me, s_nil, s_cons, consA_eq, consB_eq, e_lit, e_glob, e_var0, e_varS, e_comp, i_range1, i_range2, r2a_eq, i_val, vK_tup, vK_str, t_lit, t_cmp, t_cmp2, t_cmp3, t_call, t_bi, t_var, t_and, t_or, t_not, andT_t, andT_f, orT_t, orT_f, notT_eq, v_add, v_sub, c_lt, c_le, c_gt, c_ge, c_eqI, c_neI, c_eqS, c_neS, c_isN, c_isnotN, c_isB, c_isnotB, x_tup, x_lstV, sl_lstV, sl_tup, b_lenT, b_lenV, decide_true, decide_false, Bool.not_true, Bool.not_false, e4, x_str (show al.length ≤ lim by decide) ec]
        · rcases List.mem_append.mp hk with hk | hk
          · exact hin k hk
          · rw [List.mem_singleton.mp hk]; exact ⟨c, hc, rfl⟩) (fun acc h' _ => by rw [src_intsL, src_ints, if_neg (by omega)])
    subst hacc
    rw [src_intsL] at hlen3
    have hfl : ks3.flatten.length = ks3.length ∧ ∀ c ∈ ks3.flatten, c ∈ al := by
      clear e3 hlen3
      induction ks3 with
      | nil => exact ⟨rfl, fun c hc => by cases hc⟩
      | cons a l ih =>
        obtain ⟨c, hc, rfl⟩ := hin3 a List.mem_cons_self
        obtain ⟨i1, i2⟩ := ih fun k hk => hin3 k (List.mem_cons_of_mem _ hk)
        refine ⟨by simp only [List.flatten_cons, List.length_append, List.length_cons, List.length_nil, i1]; omega, fun x hx => ?_⟩
        rw [List.flatten_cons] at hx
        rcases List.mem_append.mp hx with hx | hx
        · rw [List.mem_singleton.mp hx]; exact hc
        · exact i2 x hx
    have ej := m_joinL (t := []) (get_new (h := h3) (o := CO.lst (ks3.map CV.str))) (by rw [joinS_nil, hfl.1, List.length_nil]; exact lim_big (by omega))
    rw [joinS_nil] at ej
    simp only [run_eq, List.length_cons, List.length_nil, List.map_cons, List.map_nil, List.cons_append, List.nil_append, List.replicate, List.set_cons_zero, List.set_cons_succ, x_cons, x_nil, seqC_nx, seqC_rt, x_asg, asgK_nm, asgK_sub, retS_some, retH_some, sub1_eq, sub2_eq, x_expr, exK_eq, x_ret, retK_eq, x_retn, x_iff, iffK_t, iffK_f, x_fo, x_pas, x_par, runK_nx, runK_rt, bindE_some, bindL_some, bindO_some, bindI_some, bindB_some, liftB_some, retV_some, asB_bl, bin1_eq, e_bin, cmpK_eq, cmp1_eq, e_cmp, cmpR_t, cmpR_f, cmp2a_eq, e_cmp2, cmpR3_t, cmpR3_f, cmp3a_eq, e_cmp3, e_and, e_or, andK_t, andK_f, orK_t, orK_f, bOut_eq, notK_eq, e_not, negK_int, e_neg, iteK_t, iteK_f, e_ite, tupK2_eq, e_tup, lstK_eq, e_lst, e_dct0, ixK_eq, ix1_eq, e_ix, sl1_eq, sl2_eq, e_sl, e_rev, o_no, o_ex, oK_int, e_call, e_bi, e_me, s_nil, s_cons, consA_eq, consB_eq, e_lit, e_glob, e_var0, e_varS, e_comp, i_range1, i_range2, r2a_eq, i_val, vK_tup, vK_str, t_lit, t_cmp, t_cmp2, t_cmp3, t_call, t_bi, t_var, t_and, t_or, t_not, andT_t, andT_f, orT_t, orT_f, notT_eq, v_add, v_sub, c_lt, c_le, c_gt, c_ge, c_eqI, c_neI, c_eqS, c_neS, c_isN, c_isnotN, c_isB, c_isnotB, x_tup, x_lstV, sl_lstV, sl_tup, b_lenT, b_lenV, decide_true, decide_false, Bool.not_true, Bool.not_false, e2, r1K_int sm, e3, me1_eq r_join, ej]
    exact ⟨_, _, rfl, ⟨by rw [hfl.1]; omega, by rw [hfl.1]; omega, hfl.2⟩, o3.trans (Off.app _ _ _), q3.keep (Off.app [] _ _) (by simp)⟩
  have hr0 : (h ++ [CO.lst []])[r]? = some (.lst (ks.map .str)) := get_app hr
  have e0 := eq_strsL (ls := []) hr0 (get_new (h := h) (o := CO.lst []))
  by_cases hks : ks = []
  · obtain ⟨k, h1, e1, hk1, o1, q1⟩ := made (h ++ [.lst []]) (Off.app _ _ _) (q.keep (Off.app [] _ _) (by simp))
    obtain ⟨k2, h2, e2, r2⟩ := fin k h1 hk1 o1 q1 (o1.get hr (by simpa using hpr))
    refine ⟨k2, h2, ?_, r2⟩
    rw [← e2]
    unfold al at e1 ⊢
    simp only [b6, n6, run_eq, List.length_cons, List.length_nil, List.map_cons, List.map_nil, List.cons_append, List.nil_append, List.replicate, List.set_cons_zero, List.set_cons_succ, x_cons, x_nil, seqC_nx, seqC_rt, x_asg, asgK_nm, asgK_sub, retS_some, retH_some, sub1_eq, sub2_eq, x_expr, exK_eq, x_ret, retK_eq, x_retn, x_iff, iffK_t, iffK_f, x_fo, x_pas, x_par, runK_nx, runK_rt, bindE_some, bindL_some, bindO_some, bindI_some, bindB_some, liftB_some, retV_some, asB_bl, bin1_eq, e_bin, cmpK_eq, cmp1_eq, e_cmp, cmpR_t, cmpR_f, cmp2a_eq, e_cmp2, cmpR3_t, cmpR3_f, cmp3a_eq, e_cmp3, e_and, e_or, andK_t, andK_f, orK_t, orK_f, bOut_eq, notK_eq, e_not, negK_int, e_neg, iteK_t, iteK_f, e_ite, tupK2_eq, e_tup, lstK_eq, e_lst, e_dct0, ixK_eq, ix1_eq, e_ix, sl1_eq, sl2_eq, e_sl, e_rev, o_no, o_ex, oK_int, e_call, e_bi, e_me, s_nil, s_cons, consA_eq, consB_eq, e_lit, e_glob, e_var0, e_varS, e_comp, i_range1, i_range2, r2a_eq, i_val, vK_tup, vK_str, t_lit, t_cmp, t_cmp2, t_cmp3, t_call, t_bi, t_var, t_and, t_or, t_not, andT_t, andT_f, orT_t, orT_f, notT_eq, v_add, v_sub, c_lt, c_le, c_gt, c_ge, c_eqI, c_neI, c_eqS, c_neS, c_isN, c_isnotN, c_isB, c_isnotB, x_tup, x_lstV, sl_lstV, sl_tup, b_lenT, b_lenV, decide_true, decide_false, Bool.not_true, Bool.not_false, c_ne e0, hks, e1]
  · obtain ⟨n, h1, e1, n0, n1, o1, q1⟩ := hF (h ++ [.lst []]) p 4 (q.keep (Off.app [] _ _) (by simp)) (by decide) (by decide)
    have o01 : Off [p] h h1 := (Off.app _ _ _).trans o1
    by_cases hn : n = 1
    · have hr1 := o01.get hr (by simpa using hpr)
      have hpos : 0 < ks.length := List.length_pos_iff.mpr hks
      obtain ⟨m, h2, e2, m0, m1, o2, q2⟩ := hF h1 p (ks.length : Int) q1 (by omega) (by omega)
      have o02 := o01.trans o2
      have hr2 := o02.get hr (by simpa using hpr)
      have hm : m.toNat < ks.length := by omega
      have x2 := x_lst (i := m) hr2
      rw [atI_int _ m0, List.getElem?_map, List.getElem?_eq_getElem hm, Option.map_some] at x2
      have hkm := hk _ (List.getElem_mem hm)
      generalize ks[m.toNat] = k0 at x2 hkm
      obtain ⟨m2, h3, e3, m20, m21, o3, q3⟩ := hF h2 p 26 q2 (by decide) (by decide)
      obtain ⟨c, ec, hc⟩ := al_at m20 m21
      have o03 := o02.trans o3
      have hl0 := hkm.2.1
      have ea : binV .add (.str k0) (.str [c]) h3 = some (.str (k0 ++ [c]), h3) := v_addS (by simp only [List.length_cons, List.length_nil]; exact lim_big (by omega))
      have es : slV (.str (k0 ++ [c])) none (some 8) h3 = some (.str ((k0 ++ [c]).take 8), h3) := by
        rw [sl_str (by simp only [List.length_append, List.length_cons, List.length_nil]; exact lim_big (by omega))]
        rw [show cut (k0 ++ [c]) none (some 8) = (k0 ++ [c]).take 8 from cut_to _ 8]
      have hN : Nm ((k0 ++ [c]).take 8) := by
        refine ⟨?_, ?_, fun x hx => ?_⟩
        · simp only [List.length_take, List.length_append, List.length_cons, List.length_nil]; omega
        · simp only [List.length_take]; omega
        · rcases List.mem_append.mp (List.mem_of_mem_take hx) with hx | hx
          · exact hkm.2.2 x hx
          · rw [List.mem_singleton.mp hx]; exact hc
      obtain ⟨k2, h4, e4, r4⟩ := fin _ h3 hN o03 q3 (o03.get hr (by simpa using hpr))
      refine ⟨k2, h4, ?_, r4⟩
      rw [← e4]
      unfold al at ec ⊢
      simp only [b6, n6, run_eq, List.length_cons, List.length_nil, List.map_cons, List.map_nil, List.cons_append, List.nil_append, List.replicate, List.set_cons_zero, List.set_cons_succ, x_cons, x_nil, seqC_nx, seqC_rt, x_asg, asgK_nm, asgK_sub, retS_some, retH_some, sub1_eq, sub2_eq, x_expr, exK_eq, x_ret, retK_eq, x_retn, x_iff, iffK_t, iffK_f, x_fo, x_pas, x_par, runK_nx, runK_rt, bindE_some, bindL_some, bindO_some, bindI_some, bindB_some, liftB_some, retV_some, asB_bl, bin1_eq, e_bin, cmpK_eq, cmp1_eq, e_cmp, cmpR_t, cmpR_f, cmp2a_eq, e_cmp2, cmpR3_t, cmpR3_f, cmp3a_eq, e_cmp3, e_and, e_or, andK_t, andK_f, orK_t, orK_f, bOut_eq, notK_eq, e_not, negK_int, e_neg, iteK_t, iteK_f, e_ite, tupK2_eq, e_tup, lstK_eq, e_lst, e_dct0, ixK_eq, ix1_eq, e_ix, sl1_eq, sl2_eq, e_sl, e_rev, o_no, o_ex, oK_int, e_call, e_bi, e_me, s_nil, s_cons, consA_eq, consB_eq, e_lit, e_glob, e_var0, e_varS, e_comp, i_range1, i_range2, r2a_eq, i_val, vK_tup, vK_str, t_lit, t_cmp, t_cmp2, t_cmp3, t_call, t_bi, t_var, t_and, t_or, t_not, andT_t, andT_f, orT_t, orT_f, notT_eq, v_add, v_sub, c_lt, c_le, c_gt, c_ge, c_eqI, c_neI, c_eqS, c_neS, c_isN, c_isnotN, c_isB, c_isnotB, x_tup, x_lstV, sl_lstV, sl_tup, b_lenT, b_lenV, decide_true, decide_false, Bool.not_true, Bool.not_false, c_ne e0, hks, e1, hn, b_lenL hr1, List.length_map, e2, x2, e3, x_str (show ([97, 98, 99, 100, 101, 102, 103, 104, 105, 106, 107, 108, 109, 110, 111, 112, 113, 114, 115, 116, 117, 118, 119, 120, 121, 122] : List Nat).length ≤ lim by decide) ec, ea, es]
    · obtain ⟨k, h2, e2, hk2, o2, q2⟩ := made h1 o01 q1
      obtain ⟨k2, h3, e3, r3⟩ := fin k h2 hk2 o2 q2 (o2.get hr (by simpa using hpr))
      refine ⟨k2, h3, ?_, r3⟩
      rw [← e3]
      unfold al at e2 ⊢
      simp only [b6, n6, run_eq, List.length_cons, List.length_nil, List.map_cons, List.map_nil, List.cons_append, List.nil_append, List.replicate, List.set_cons_zero, List.set_cons_succ, x_cons, x_nil, seqC_nx, seqC_rt, x_asg, asgK_nm, asgK_sub, retS_some, retH_some, sub1_eq, sub2_eq, x_expr, exK_eq, x_ret, retK_eq, x_retn, x_iff, iffK_t, iffK_f, x_fo, x_pas, x_par, runK_nx, runK_rt, bindE_some, bindL_some, bindO_some, bindI_some, bindB_some, liftB_some, retV_some, asB_bl, bin1_eq, e_bin, cmpK_eq, cmp1_eq, e_cmp, cmpR_t, cmpR_f, cmp2a_eq, e_cmp2, cmpR3_t, cmpR3_f, cmp3a_eq, e_cmp3, e_and, e_or, andK_t, andK_f, orK_t, orK_f, bOut_eq, notK_eq, e_not, negK_int, e_neg, iteK_t, iteK_f, e_ite, tupK2_eq, e_tup, lstK_eq, e_lst, e_dct0, ixK_eq, ix1_eq, e_ix, sl1_eq, sl2_eq, e_sl, e_rev, o_no, o_ex, oK_int, e_call, e_bi, e_me, s_nil, s_cons, consA_eq, consB_eq, e_lit, e_glob, e_var0, e_varS, e_comp, i_range1, i_range2, r2a_eq, i_val, vK_tup, vK_str, t_lit, t_cmp, t_cmp2, t_cmp3, t_call, t_bi, t_var, t_and, t_or, t_not, andT_t, andT_f, orT_t, orT_f, notT_eq, v_add, v_sub, c_lt, c_le, c_gt, c_ge, c_eqI, c_neI, c_eqS, c_neS, c_isN, c_isnotN, c_isB, c_isnotB, x_tup, x_lstV, sl_lstV, sl_tup, b_lenT, b_lenV, decide_true, decide_false, Bool.not_true, Bool.not_false, c_ne e0, hks, e1, hn, e2]
end TH

namespace TH
open PySem
theorem Off.setNew {S : List Nat} {h h1 : CH} {r : Nat} {c : CO} (o : Off S h h1) (hr : h.length ≤ r) : Off S h (h1.set r c) :=
  ⟨by rw [List.length_set]; exact o.len, fun i hi hs => by rw [List.getElem?_set_ne (by omega)]; exact o.at' i hi hs⟩
theorem Pool.setNew {h1 : CH} {p r : Nat} {c : CO} (q : Pool h1 p) (hr : r ≠ p) : Pool (h1.set r c) p := by
  obtain ⟨a, b, d, e, x⟩ := q
  exact ⟨a, b, d, by rw [List.getElem?_set_ne hr]; exact e, x⟩
theorem run_hands (F : Fns) (W : Nat) (hF : ∀ (h : CH) (p r : Nat) (ks : List (List Nat)), Pool h p → h[r]? = some (.lst (ks.map .str)) → r ≠ p → ks.length < 26 → (∀ k ∈ ks, Nm k) → ∃ k h', F 6 [.ref p, .ref r] h = some (.str k, h') ∧ Nm k ∧ k ∉ ks ∧ Off [p] h h' ∧ Pool h' p)
    {h : CH} {p : Nat} {n : Int} (q : Pool h p) (h0 : 0 ≤ n) (hn : n < 26) : ∃ (ks : List (List Nat)) (h' : CH), runC F W n7.length b7 [.ref p, .int n] h = some (.ref h.length, h') ∧ h'[h.length]? = some (.lst (ks.map CV.str)) ∧ ks.length = n.toNat ∧ ks.Nodup ∧ (∀ k ∈ ks, Nm k) ∧ Off [p] h h' ∧ Pool h' p := by
  have sm : small62 n = true := by unfold small62; simp only [Bool.and_eq_true, decide_eq_true_eq]; omega
  have hp := q.lt
  obtain ⟨s', h', e, x, ks, rfl, g, l, nd, nm, o, q'⟩ := foK_inv (F := F) (W := W) (s := [some (.ref p), some (.int n), some (.ref h.length), none]) (h := h ++ [.lst []]) (t := .nm 3) (b := .cons (.expr (.me .append (.var 2) (.cons (.call 6 (.cons (.var 0) (.cons (.var 2) .nil))) .nil))) .nil) (src := .ints 0 n.toNat)
    (fun j s' h' => ∃ (x : Option CV) (ks : List (List Nat)), s' = [some (.ref p), some (.int n), some (.ref h.length), x] ∧ h'[h.length]? = some (.lst (ks.map CV.str)) ∧ ks.length = j ∧ ks.Nodup ∧ (∀ k ∈ ks, Nm k) ∧ Off [p] h h' ∧ Pool h' p)
    ⟨none, [], rfl, get_new, rfl, List.nodup_nil, (fun k hk => by cases hk), Off.app _ _ _, q.keep (Off.app [] _ _) (by simp)⟩
    (fun j s' h' hj hi => by
      rw [src_intsL] at hj
      obtain ⟨x, ks, rfl, g, l, nd, nm, o, q'⟩ := hi
      obtain ⟨k, h2, e2, k1, k2, o2, q2⟩ := hF h' p h.length ks q' g (by omega) (by omega) nm
      have g2 := o2.get g (by simp; omega)
      refine ⟨_, [some (.ref p), some (.int n), some (.ref h.length), some (.int (0 + (j : Int)))], h2.set h.length (.lst (ks.map CV.str ++ [.str k])), by rw [src_ints, if_pos hj], ?_, some (.int (0 + (j : Int))), ks ++ [k], rfl, ?_, by simp [l], ?_, ?_, (o.trans o2).setNew (Nat.le_refl _), q2.setNew (by omega)⟩
      · rw [foB_nm]
        simp only [run_eq, List.length_cons, List.length_nil, List.map_cons, List.map_nil, List.cons_append, List.nil_append, List.replicate, List.set_cons_zero, List.set_cons_succ, x_cons, x_nil, seqC_nx, seqC_rt, x_asg, asgK_nm, asgK_sub, retS_some, retH_some, sub1_eq, sub2_eq, x_expr, exK_eq, x_ret, retK_eq, x_retn, x_iff, iffK_t, iffK_f, x_fo, x_pas, x_par, runK_nx, runK_rt, bindE_some, bindL_some, bindO_some, bindI_some, bindB_some, liftB_some, retV_some, asB_bl, bin1_eq, e_bin, cmpK_eq, cmp1_eq, e_cmp, cmpR_t, cmpR_f, cmp2a_eq, e_cmp2, cmpR3_t, cmpR3_f, cmp3a_eq, e_cmp3, e_and, e_or, andK_t, andK_f, orK_t, orK_f, bOut_eq, notK_eq, e_not, negK_int, e_neg, iteK_t, iteK_f, e_ite, tupK2_eq, e_tup, lstK_eq, e_lst, e_dct0, ixK_eq, ix1_eq, e_ix, sl1_eq, sl2_eq, e_sl, e_rev, o_no, o_ex, oK_int, e_call, e_bi, e_me, s_nil, s_cons, consA_eq, consB_eq, e_lit, e_glob, e_var0, e_varS, e_comp, i_range1, i_range2, r2a_eq, i_val, vK_tup, vK_str, t_lit, t_cmp, t_cmp2, t_cmp3, t_call, t_bi, t_var, t_and, t_or, t_not, andT_t, andT_f, orT_t, orT_f, notT_eq, v_add, v_sub, c_lt, c_le, c_gt, c_ge, c_eqI, c_neI, c_eqS, c_neS, c_isN, c_isnotN, c_isB, c_isnotB, x_tup, x_lstV, sl_lstV, sl_tup, b_lenT, b_lenV, decide_true, decide_false, Bool.not_true, Bool.not_false, me1_eq (r_append g), e2, m_append g2 (show (ks.map CV.str).length < lim by rw [List.length_map]; exact lim_lt (by omega))]
      · rw [List.getElem?_set_self (lt_of g2)]; simp
      · rw [List.nodup_append]
        exact ⟨nd, by simp, fun a ha b hb e => k2 (by rw [List.mem_singleton.mp hb] at e; rw [← e]; exact ha)⟩
      · intro y hy
        rcases List.mem_append.mp hy with hy | hy
        · exact nm y hy
        · rw [List.mem_singleton.mp hy]; exact k1)
    (fun s' h' _ => by rw [src_intsL, src_ints, if_neg (by omega)])
  rw [src_intsL] at l
  refine ⟨ks, h', ?_, g, l, nd, nm, o, q'⟩
  simp only [b7, n7, run_eq, List.length_cons, List.length_nil, List.map_cons, List.map_nil, List.cons_append, List.nil_append, List.replicate, List.set_cons_zero, List.set_cons_succ, x_cons, x_nil, seqC_nx, seqC_rt, x_asg, asgK_nm, asgK_sub, retS_some, retH_some, sub1_eq, sub2_eq, x_expr, exK_eq, x_ret, retK_eq, x_retn, x_iff, iffK_t, iffK_f, x_fo, x_pas, x_par, runK_nx, runK_rt, bindE_some, bindL_some, bindO_some, bindI_some, bindB_some, liftB_some, retV_some, asB_bl, bin1_eq, e_bin, cmpK_eq, cmp1_eq, e_cmp, cmpR_t, cmpR_f, cmp2a_eq, e_cmp2, cmpR3_t, cmpR3_f, cmp3a_eq, e_cmp3, e_and, e_or, andK_t, andK_f, orK_t, orK_f, bOut_eq, notK_eq, e_not, negK_int, e_neg, iteK_t, iteK_f, e_ite, tupK2_eq, e_tup, lstK_eq, e_lst, e_dct0, ixK_eq, ix1_eq, e_ix, sl1_eq, sl2_eq, e_sl, e_rev, o_no, o_ex, oK_int, e_call, e_bi, e_me, s_nil, s_cons, consA_eq, consB_eq, e_lit, e_glob, e_var0, e_varS, e_comp, i_range1, i_range2, r2a_eq, i_val, vK_tup, vK_str, t_lit, t_cmp, t_cmp2, t_cmp3, t_call, t_bi, t_var, t_and, t_or, t_not, andT_t, andT_f, orT_t, orT_f, notT_eq, v_add, v_sub, c_lt, c_le, c_gt, c_ge, c_eqI, c_neI, c_eqS, c_neS, c_isN, c_isnotN, c_isB, c_isnotB, x_tup, x_lstV, sl_lstV, sl_tup, b_lenT, b_lenV, decide_true, decide_false, Bool.not_true, Bool.not_false, r1K_int sm, e]
end TH

namespace TH
open PySem
/-! ### words and deeds -/
/-- a value whose type may be asked -/
def Typ (h : CH) : CV → Prop
  | .ref r => (∃ xs, h[r]? = some (.lst xs)) ∨ ∃ kvs, h[r]? = some (.dct kvs)
  | .lst _ => False
  | _ => True
theorem Typ.off {h h' : CH} {v : CV} (t : Typ h v) (o : Off [] h h') : Typ h' v := by
  cases v with
  | ref r =>
    rcases t with ⟨xs, e⟩ | ⟨kvs, e⟩
    · exact .inl ⟨xs, o.get e (by simp)⟩
    · exact .inr ⟨kvs, o.get e (by simp)⟩
  | _ => exact t
theorem b_isi {t : Ty} {a : CV} {h : CH} {b : Bool} (e : isiV t a h = some b) : biV (.isi t) [a] h = some (.bl b, h) := by simp only [biV, e, Option.map_some]
def isInt : CV → Bool
  | .int _ => true | _ => false
def isStr : CV → Bool
  | .str _ => true | _ => false
def isTup : CV → Bool
  | .tup _ => true | _ => false
def isBl : CV → Bool
  | .bl _ => true | _ => false
theorem i_str {h : CH} {v : CV} (t : Typ h v) : isiV .str v h = some (isStr v) := by
  cases v with
  | ref r => rcases t with ⟨xs, e⟩ | ⟨kvs, e⟩ <;> simp only [isiV, e, isStr]
  | lst _ => exact t.elim
  | _ => rfl
theorem i_tup {h : CH} {v : CV} (t : Typ h v) : isiV .tup v h = some (isTup v) := by
  cases v with
  | ref r => rcases t with ⟨xs, e⟩ | ⟨kvs, e⟩ <;> simp only [isiV, e, isTup]
  | lst _ => exact t.elim
  | _ => rfl
theorem i_int {h : CH} {v : CV} (t : Typ h v) : isiV .int v h = some (isInt v || isBl v) := by
  cases v with
  | ref r => rcases t with ⟨xs, e⟩ | ⟨kvs, e⟩ <;> simp only [isiV, e, isInt, isBl, Bool.or_self]
  | lst _ => exact t.elim
  | _ => rfl
theorem i_bool {h : CH} {v : CV} (t : Typ h v) : isiV .bool v h = some (isBl v) := by
  cases v with
  | ref r => rcases t with ⟨xs, e⟩ | ⟨kvs, e⟩ <;> simp only [isiV, e, isBl]
  | lst _ => exact t.elim
  | _ => rfl
theorem run_whole (F : Fns) (W : Nat) {h : CH} {v : CV} (t : Typ h v) : runC F W n0.length b0 [v] h = some (.bl (isInt v), h) := by
  cases e : isBl v with
  | true =>
    have : isInt v = false := by cases v <;> first | rfl | cases e
    simp only [b0, n0, run_eq, List.length_cons, List.length_nil, List.map_cons, List.map_nil, List.cons_append, List.nil_append, List.replicate, List.set_cons_zero, List.set_cons_succ, x_cons, x_nil, seqC_nx, seqC_rt, x_asg, asgK_nm, asgK_sub, retS_some, retH_some, sub1_eq, sub2_eq, x_expr, exK_eq, x_ret, retK_eq, x_retn, x_iff, iffK_t, iffK_f, x_fo, x_pas, x_par, runK_nx, runK_rt, bindE_some, bindL_some, bindO_some, bindI_some, bindB_some, liftB_some, retV_some, asB_bl, bin1_eq, e_bin, cmpK_eq, cmp1_eq, e_cmp, cmpR_t, cmpR_f, cmp2a_eq, e_cmp2, cmpR3_t, cmpR3_f, cmp3a_eq, e_cmp3, e_and, e_or, andK_t, andK_f, orK_t, orK_f, bOut_eq, notK_eq, e_not, negK_int, e_neg, iteK_t, iteK_f, e_ite, tupK2_eq, e_tup, lstK_eq, e_lst, e_dct0, ixK_eq, ix1_eq, e_ix, sl1_eq, sl2_eq, e_sl, e_rev, o_no, o_ex, oK_int, e_call, e_bi, e_me, s_nil, s_cons, consA_eq, consB_eq, e_lit, e_glob, e_var0, e_varS, e_comp, i_range1, i_range2, r2a_eq, i_val, vK_tup, vK_str, t_lit, t_cmp, t_cmp2, t_cmp3, t_call, t_bi, t_var, t_and, t_or, t_not, andT_t, andT_f, orT_t, orT_f, notT_eq, v_add, v_sub, c_lt, c_le, c_gt, c_ge, c_eqI, c_neI, c_eqS, c_neS, c_isN, c_isnotN, c_isB, c_isnotB, x_tup, x_lstV, sl_lstV, sl_tup, b_lenT, b_lenV, decide_true, decide_false, Bool.not_true, Bool.not_false, b_isi (i_int t), b_isi (i_bool t), e, this, Bool.or_true]
  | false =>
    cases e2 : isInt v <;> simp only [b0, n0, run_eq, List.length_cons, List.length_nil, List.map_cons, List.map_nil, List.cons_append, List.nil_append, List.replicate, List.set_cons_zero, List.set_cons_succ, x_cons, x_nil, seqC_nx, seqC_rt, x_asg, asgK_nm, asgK_sub, retS_some, retH_some, sub1_eq, sub2_eq, x_expr, exK_eq, x_ret, retK_eq, x_retn, x_iff, iffK_t, iffK_f, x_fo, x_pas, x_par, runK_nx, runK_rt, bindE_some, bindL_some, bindO_some, bindI_some, bindB_some, liftB_some, retV_some, asB_bl, bin1_eq, e_bin, cmpK_eq, cmp1_eq, e_cmp, cmpR_t, cmpR_f, cmp2a_eq, e_cmp2, cmpR3_t, cmpR3_f, cmp3a_eq, e_cmp3, e_and, e_or, andK_t, andK_f, orK_t, orK_f, bOut_eq, notK_eq, e_not, negK_int, e_neg, iteK_t, iteK_f, e_ite, tupK2_eq, e_tup, lstK_eq, e_lst, e_dct0, ixK_eq, ix1_eq, e_ix, sl1_eq, sl2_eq, e_sl, e_rev, o_no, o_ex, oK_int, e_call, e_bi, e_me, s_nil, s_cons, consA_eq, consB_eq, e_lit, e_glob, e_var0, e_varS, e_comp, i_range1, i_range2, r2a_eq, i_val, vK_tup, vK_str, t_lit, t_cmp, t_cmp2, t_cmp3, t_call, t_bi, t_var, t_and, t_or, t_not, andT_t, andT_f, orT_t, orT_f, notT_eq, v_add, v_sub, c_lt, c_le, c_gt, c_ge, c_eqI, c_neI, c_eqS, c_neS, c_isN, c_isnotN, c_isB, c_isnotB, x_tup, x_lstV, sl_lstV, sl_tup, b_lenT, b_lenV, decide_true, decide_false, Bool.not_true, Bool.not_false, b_isi (i_int t), b_isi (i_bool t), e, e2, Bool.or_true, Bool.or_false, Bool.true_or]
/-- a name, told by computing -/
def nmB (k : List Nat) : Bool := decide (1 ≤ k.length) && decide (k.length ≤ 8) && k.all fun c => decide (c ∈ al)
def nmV : CV → Bool
  | .str k => nmB k | _ => false
theorem nmB_iff (k : List Nat) : nmB k = true ↔ Nm k := by
  unfold nmB Nm
  simp only [Bool.and_eq_true, decide_eq_true_eq, List.all_eq_true, and_assoc]
theorem run_isname (F : Fns) (W : Nat) {h : CH} {v : CV} (t : Typ h v) (hl : ∀ k, v = .str k → k.length ≤ 1000) : ∃ h', runC F W n1.length b1 [v] h = some (.bl (nmV v), h') ∧ Off [] h h' := by
  cases e : isStr v with
  | false =>
    have : nmV v = false := by cases v <;> first | rfl | cases e
    refine ⟨h, ?_, .refl _ _⟩
    simp only [b1, n1, run_eq, List.length_cons, List.length_nil, List.map_cons, List.map_nil, List.cons_append, List.nil_append, List.replicate, List.set_cons_zero, List.set_cons_succ, x_cons, x_nil, seqC_nx, seqC_rt, x_asg, asgK_nm, asgK_sub, retS_some, retH_some, sub1_eq, sub2_eq, x_expr, exK_eq, x_ret, retK_eq, x_retn, x_iff, iffK_t, iffK_f, x_fo, x_pas, x_par, runK_nx, runK_rt, bindE_some, bindL_some, bindO_some, bindI_some, bindB_some, liftB_some, retV_some, asB_bl, bin1_eq, e_bin, cmpK_eq, cmp1_eq, e_cmp, cmpR_t, cmpR_f, cmp2a_eq, e_cmp2, cmpR3_t, cmpR3_f, cmp3a_eq, e_cmp3, e_and, e_or, andK_t, andK_f, orK_t, orK_f, bOut_eq, notK_eq, e_not, negK_int, e_neg, iteK_t, iteK_f, e_ite, tupK2_eq, e_tup, lstK_eq, e_lst, e_dct0, ixK_eq, ix1_eq, e_ix, sl1_eq, sl2_eq, e_sl, e_rev, o_no, o_ex, oK_int, e_call, e_bi, e_me, s_nil, s_cons, consA_eq, consB_eq, e_lit, e_glob, e_var0, e_varS, e_comp, i_range1, i_range2, r2a_eq, i_val, vK_tup, vK_str, t_lit, t_cmp, t_cmp2, t_cmp3, t_call, t_bi, t_var, t_and, t_or, t_not, andT_t, andT_f, orT_t, orT_f, notT_eq, v_add, v_sub, c_lt, c_le, c_gt, c_ge, c_eqI, c_neI, c_eqS, c_neS, c_isN, c_isnotN, c_isB, c_isnotB, x_tup, x_lstV, sl_lstV, sl_tup, b_lenT, b_lenV, decide_true, decide_false, Bool.not_true, Bool.not_false, b_isi (i_str t), e, this]
  | true =>
    obtain ⟨k, rfl⟩ : ∃ k, v = .str k := by cases v <;> first | exact ⟨_, rfl⟩ | cases e
    have hk := hl k rfl
    have hkl : k.length ≤ lim := lim_big (by omega)
    have c1 : cmpV .le (.int 1) (.int (k.length : Int)) h = some (decide ((1 : Int) ≤ k.length)) := rfl
    have c2 : cmpV .le (.int (k.length : Int)) (.int 8) h = some (decide ((k.length : Int) ≤ 8)) := rfl
    by_cases h1 : (1 : Int) ≤ k.length
    · by_cases h2 : (k.length : Int) ≤ 8
      · have d1 : decide (1 ≤ k.length) = true := decide_eq_true (by omega)
        have d2 : decide (k.length ≤ 8) = true := decide_eq_true (by omega)
        have ec := comp_all (F := F) (s := [some (.str k), none]) (h := h) (elt := .cmp .isin (.var 1) (.glob "SMALL" (.str al))) (i := 1) (src := .str k) (xs := k.map fun c => CV.str [c])
          (fun x => match x with | .str [c] => .bl (decide (c ∈ al)) | x => x) (fun i => src_str) src_strL (by rw [List.length_map]; exact hkl) (fun x hx => by
            obtain ⟨c, hc, rfl⟩ := List.mem_map.mp hx
            simp only [run_eq, List.length_cons, List.length_nil, List.map_cons, List.map_nil, List.cons_append, List.nil_append, List.replicate, List.set_cons_zero, List.set_cons_succ, x_cons, x_nil, seqC_nx, seqC_rt, x_asg, asgK_nm, asgK_sub, retS_some, retH_some, sub1_eq, sub2_eq, x_expr, exK_eq, x_ret, retK_eq, x_retn, x_iff, iffK_t, iffK_f, x_fo, x_pas, x_par, runK_nx, runK_rt, bindE_some, bindL_some, bindO_some, bindI_some, bindB_some, liftB_some, retV_some, asB_bl, bin1_eq, e_bin, cmpK_eq, cmp1_eq, e_cmp, cmpR_t, cmpR_f, cmp2a_eq, e_cmp2, cmpR3_t, cmpR3_f, cmp3a_eq, e_cmp3, e_and, e_or, andK_t, andK_f, orK_t, orK_f, bOut_eq, notK_eq, e_not, negK_int, e_neg, iteK_t, iteK_f, e_ite, tupK2_eq, e_tup, lstK_eq, e_lst, e_dct0, ixK_eq, ix1_eq, e_ix, sl1_eq, sl2_eq, e_sl, e_rev, o_no, o_ex, oK_int, e_call, e_bi, e_me, s_nil, s_cons, consA_eq, consB_eq, e_lit, e_glob, e_var0, e_varS, e_comp, i_range1, i_range2, r2a_eq, i_val, vK_tup, vK_str, t_lit, t_cmp, t_cmp2, t_cmp3, t_call, t_bi, t_var, t_and, t_or, t_not, andT_t, andT_f, orT_t, orT_f, notT_eq, v_add, v_sub, c_lt, c_le, c_gt, c_ge, c_eqI, c_neI, c_eqS, c_neS, c_isN, c_isnotN, c_isB, c_isnotB, x_tup, x_lstV, sl_lstV, sl_tup, b_lenT, b_lenV, decide_true, decide_false, Bool.not_true, Bool.not_false, c_in (in_sign (h := h) (c := c) (t := al))])
        rw [List.map_map] at ec
        have em : k.map ((fun x => match x with | CV.str [c] => CV.bl (decide (c ∈ al)) | x => x) ∘ fun c => CV.str [c]) = (k.map fun c => decide (c ∈ al)).map CV.bl := by rw [List.map_map]; rfl
        rw [em] at ec
        have ea := b_all (get_new (h := h) (o := CO.lst ((k.map fun c => decide (c ∈ al)).map CV.bl)))
        have en : nmV (.str k) = (k.map fun c => decide (c ∈ al)).all id := by
          show nmB k = _
          unfold nmB
          rw [d1, d2, List.all_map]
          rfl
        refine ⟨h ++ [CO.lst ((k.map fun c => decide (c ∈ al)).map CV.bl)], ?_, Off.app [] h _⟩
        · rw [en]
          unfold al at ec ea ⊢
          simp only [b1, n1, run_eq, List.length_cons, List.length_nil, List.map_cons, List.map_nil, List.cons_append, List.nil_append, List.replicate, List.set_cons_zero, List.set_cons_succ, x_cons, x_nil, seqC_nx, seqC_rt, x_asg, asgK_nm, asgK_sub, retS_some, retH_some, sub1_eq, sub2_eq, x_expr, exK_eq, x_ret, retK_eq, x_retn, x_iff, iffK_t, iffK_f, x_fo, x_pas, x_par, runK_nx, runK_rt, bindE_some, bindL_some, bindO_some, bindI_some, bindB_some, liftB_some, retV_some, asB_bl, bin1_eq, e_bin, cmpK_eq, cmp1_eq, e_cmp, cmpR_t, cmpR_f, cmp2a_eq, e_cmp2, cmpR3_t, cmpR3_f, cmp3a_eq, e_cmp3, e_and, e_or, andK_t, andK_f, orK_t, orK_f, bOut_eq, notK_eq, e_not, negK_int, e_neg, iteK_t, iteK_f, e_ite, tupK2_eq, e_tup, lstK_eq, e_lst, e_dct0, ixK_eq, ix1_eq, e_ix, sl1_eq, sl2_eq, e_sl, e_rev, o_no, o_ex, oK_int, e_call, e_bi, e_me, s_nil, s_cons, consA_eq, consB_eq, e_lit, e_glob, e_var0, e_varS, e_comp, i_range1, i_range2, r2a_eq, i_val, vK_tup, vK_str, t_lit, t_cmp, t_cmp2, t_cmp3, t_call, t_bi, t_var, t_and, t_or, t_not, andT_t, andT_f, orT_t, orT_f, notT_eq, v_add, v_sub, c_lt, c_le, c_gt, c_ge, c_eqI, c_neI, c_eqS, c_neS, c_isN, c_isnotN, c_isB, c_isnotB, x_tup, x_lstV, sl_lstV, sl_tup, b_lenT, b_lenV, decide_true, decide_false, Bool.not_true, Bool.not_false, b_isi (i_str t), e, b_lenS hkl, cmp2b_eq c1, cmp2b_eq c2, h1, h2, ec, ea]
      · have en : nmV (.str k) = false := by
          show nmB k = false
          unfold nmB
          rw [decide_eq_false (show ¬ k.length ≤ 8 by omega), Bool.and_false, Bool.false_and]
        refine ⟨h, ?_, .refl _ _⟩
        simp only [b1, n1, run_eq, List.length_cons, List.length_nil, List.map_cons, List.map_nil, List.cons_append, List.nil_append, List.replicate, List.set_cons_zero, List.set_cons_succ, x_cons, x_nil, seqC_nx, seqC_rt, x_asg, asgK_nm, asgK_sub, retS_some, retH_some, sub1_eq, sub2_eq, x_expr, exK_eq, x_ret, retK_eq, x_retn, x_iff, iffK_t, iffK_f, x_fo, x_pas, x_par, runK_nx, runK_rt, bindE_some, bindL_some, bindO_some, bindI_some, bindB_some, liftB_some, retV_some, asB_bl, bin1_eq, e_bin, cmpK_eq, cmp1_eq, e_cmp, cmpR_t, cmpR_f, cmp2a_eq, e_cmp2, cmpR3_t, cmpR3_f, cmp3a_eq, e_cmp3, e_and, e_or, andK_t, andK_f, orK_t, orK_f, bOut_eq, notK_eq, e_not, negK_int, e_neg, iteK_t, iteK_f, e_ite, tupK2_eq, e_tup, lstK_eq, e_lst, e_dct0, ixK_eq, ix1_eq, e_ix, sl1_eq, sl2_eq, e_sl, e_rev, o_no, o_ex, oK_int, e_call, e_bi, e_me, s_nil, s_cons, consA_eq, consB_eq, e_lit, e_glob, e_var0, e_varS, e_comp, i_range1, i_range2, r2a_eq, i_val, vK_tup, vK_str, t_lit, t_cmp, t_cmp2, t_cmp3, t_call, t_bi, t_var, t_and, t_or, t_not, andT_t, andT_f, orT_t, orT_f, notT_eq, v_add, v_sub, c_lt, c_le, c_gt, c_ge, c_eqI, c_neI, c_eqS, c_neS, c_isN, c_isnotN, c_isB, c_isnotB, x_tup, x_lstV, sl_lstV, sl_tup, b_lenT, b_lenV, decide_true, decide_false, Bool.not_true, Bool.not_false, b_isi (i_str t), e, b_lenS hkl, cmp2b_eq c1, h1, h2, en]
    · have en : nmV (.str k) = false := by
        show nmB k = false
        unfold nmB
        rw [decide_eq_false (show ¬ 1 ≤ k.length by omega), Bool.false_and, Bool.false_and]
      refine ⟨h, ?_, .refl _ _⟩
      simp only [b1, n1, run_eq, List.length_cons, List.length_nil, List.map_cons, List.map_nil, List.cons_append, List.nil_append, List.replicate, List.set_cons_zero, List.set_cons_succ, x_cons, x_nil, seqC_nx, seqC_rt, x_asg, asgK_nm, asgK_sub, retS_some, retH_some, sub1_eq, sub2_eq, x_expr, exK_eq, x_ret, retK_eq, x_retn, x_iff, iffK_t, iffK_f, x_fo, x_pas, x_par, runK_nx, runK_rt, bindE_some, bindL_some, bindO_some, bindI_some, bindB_some, liftB_some, retV_some, asB_bl, bin1_eq, e_bin, cmpK_eq, cmp1_eq, e_cmp, cmpR_t, cmpR_f, cmp2a_eq, e_cmp2, cmpR3_t, cmpR3_f, cmp3a_eq, e_cmp3, e_and, e_or, andK_t, andK_f, orK_t, orK_f, bOut_eq, notK_eq, e_not, negK_int, e_neg, iteK_t, iteK_f, e_ite, tupK2_eq, e_tup, lstK_eq, e_lst, e_dct0, ixK_eq, ix1_eq, e_ix, sl1_eq, sl2_eq, e_sl, e_rev, o_no, o_ex, oK_int, e_call, e_bi, e_me, s_nil, s_cons, consA_eq, consB_eq, e_lit, e_glob, e_var0, e_varS, e_comp, i_range1, i_range2, r2a_eq, i_val, vK_tup, vK_str, t_lit, t_cmp, t_cmp2, t_cmp3, t_call, t_bi, t_var, t_and, t_or, t_not, andT_t, andT_f, orT_t, orT_f, notT_eq, v_add, v_sub, c_lt, c_le, c_gt, c_ge, c_eqI, c_neI, c_eqS, c_neS, c_isN, c_isnotN, c_isB, c_isnotB, x_tup, x_lstV, sl_lstV, sl_tup, b_lenT, b_lenV, decide_true, decide_false, Bool.not_true, Bool.not_false, b_isi (i_str t), e, b_lenS hkl, cmp2b_eq c1, h1, en]
/-- a comprehension whose items are bools, the heap growing -/
theorem comp_vals {F : Fns} {s : Env} {h : CH} {elt : CE} {i : Nat} {src : Src} {S : List Nat} {xs : List CV} (f : CV → CV) (hs : ∀ h', Off S h h' → ∀ i, src.item h' i = some xs[i]?) (hl : src.len h = xs.length) (hm : xs.length ≤ lim)
    (he : ∀ x ∈ xs, ∀ h', Off S h h' → ∃ h2, evalC F elt (s.set i (some x)) h' = some (f x, h2) ∧ Off S h' h2) : ∃ h', compK F elt (.lit (.bl true)) i s src h = some (.ref h'.length, h' ++ [.lst (xs.map f)]) ∧ Off S h h' := by
  obtain ⟨acc, h', e, ea, o⟩ := comp_each (F := F) (s := s) (h := h) (elt := elt) (i := i) (src := src) (fun j acc h' => acc = (xs.take j).map f ∧ Off S h h') (by rw [hl]; exact hm) ⟨rfl, .refl _ _⟩
    (fun j acc h' hj hi => by
      obtain ⟨rfl, o⟩ := hi
      rw [hl] at hj
      obtain ⟨h2, e2, o2⟩ := he xs[j] (List.getElem_mem hj) h' o
      refine ⟨xs[j], f xs[j], h2, by rw [hs h' o, List.getElem?_eq_getElem hj], e2, ?_, o.trans o2⟩
      rw [List.take_add_one, List.getElem?_eq_getElem hj, List.map_append]
      rfl)
    (fun acc h' hi => by rw [hs h' hi.2, hl, List.getElem?_eq_none (Nat.le_refl _)])
  rw [hl, List.take_length] at ea
  subst ea
  exact ⟨h', e, o⟩
def kSend : List Nat := [115, 101, 110, 100]
def kTake : List Nat := [116, 97, 107, 101]
def kindV : CV → Bool
  | .str k => decide (k = kSend) || decide (k = kTake) | _ => false
/-- a deed -/
def deedV : CV → Bool
  | .tup [k, a, b, c] => nmV a && nmV b && nmV c && kindV k && decide (a ≠ b)
  | _ => false
def Part (h : CH) (x : CV) : Prop := Typ h x ∧ ∀ k, x = .str k → k.length ≤ 1000
theorem Part.off {h h' : CH} {v : CV} (t : Part h v) (o : Off [] h h') : Part h' v := ⟨t.1.off o, t.2⟩
theorem nmV_str {v : CV} (h : nmV v = true) : ∃ k, v = .str k ∧ Nm k := by
  cases v with
  | str k => exact ⟨k, rfl, (nmB_iff k).mp h⟩
  | _ => cases h
theorem run_isdeed (F : Fns) (W : Nat) (hF : ∀ (h : CH) (v : CV), Part h v → ∃ h', F 1 [v] h = some (.bl (nmV v), h') ∧ Off [] h h') {h : CH} {v : CV} (t : Typ h v) (hp : ∀ xs, v = .tup xs → xs.length = 4 → ∀ x ∈ xs, Part h x) :
    ∃ h', runC F W n2.length b2 [v] h = some (.bl (deedV v), h') ∧ Off [] h h' := by
  cases e : isTup v with
  | false =>
    have : deedV v = false := by cases v <;> first | rfl | cases e
    refine ⟨h, ?_, .refl _ _⟩
    simp only [b2, n2, run_eq, List.length_cons, List.length_nil, List.map_cons, List.map_nil, List.cons_append, List.nil_append, List.replicate, List.set_cons_zero, List.set_cons_succ, x_cons, x_nil, seqC_nx, seqC_rt, x_asg, asgK_nm, asgK_sub, retS_some, retH_some, sub1_eq, sub2_eq, x_expr, exK_eq, x_ret, retK_eq, x_retn, x_iff, iffK_t, iffK_f, x_fo, x_pas, x_par, runK_nx, runK_rt, bindE_some, bindL_some, bindO_some, bindI_some, bindB_some, liftB_some, retV_some, asB_bl, bin1_eq, e_bin, cmpK_eq, cmp1_eq, e_cmp, cmpR_t, cmpR_f, cmp2a_eq, e_cmp2, cmpR3_t, cmpR3_f, cmp3a_eq, e_cmp3, e_and, e_or, andK_t, andK_f, orK_t, orK_f, bOut_eq, notK_eq, e_not, negK_int, e_neg, iteK_t, iteK_f, e_ite, tupK2_eq, e_tup, lstK_eq, e_lst, e_dct0, ixK_eq, ix1_eq, e_ix, sl1_eq, sl2_eq, e_sl, e_rev, o_no, o_ex, oK_int, e_call, e_bi, e_me, s_nil, s_cons, consA_eq, consB_eq, e_lit, e_glob, e_var0, e_varS, e_comp, i_range1, i_range2, r2a_eq, i_val, vK_tup, vK_str, t_lit, t_cmp, t_cmp2, t_cmp3, t_call, t_bi, t_var, t_and, t_or, t_not, andT_t, andT_f, orT_t, orT_f, notT_eq, v_add, v_sub, c_lt, c_le, c_gt, c_ge, c_eqI, c_neI, c_eqS, c_neS, c_isN, c_isnotN, c_isB, c_isnotB, x_tup, x_lstV, sl_lstV, sl_tup, b_lenT, b_lenV, decide_true, decide_false, Bool.not_true, Bool.not_false, b_isi (i_tup t), e, this]
  | true =>
    obtain ⟨xs, rfl⟩ : ∃ xs, v = .tup xs := by cases v <;> first | exact ⟨_, rfl⟩ | cases e
    by_cases hl : xs.length = 4
    · obtain ⟨k, a, b, c, rfl⟩ : ∃ k a b c, xs = [k, a, b, c] := by
        match xs, hl with
        | [k, a, b, c], _ => exact ⟨k, a, b, c, rfl⟩
      have hp' := hp _ rfl hl
      have hc : cut [k, a, b, c] (some 1) none = [a, b, c] := cut_from [k, a, b, c] 1
      obtain ⟨h', ec, oc⟩ := comp_vals (F := F) (s := [some (.tup [k, a, b, c]), none]) (h := h) (elt := .call 1 (.cons (.var 1) .nil)) (i := 1) (src := .tup [a, b, c]) (S := []) (xs := [a, b, c]) (fun x => .bl (nmV x)) (fun h' _ i => src_tup) src_tupL (lim_big (by simp))
        (fun x hx h' o => by
          obtain ⟨h2, e2, o2⟩ := hF h' x ((hp' x (List.mem_cons_of_mem _ hx)).off o)
          exact ⟨h2, by simp only [run_eq, List.length_cons, List.length_nil, List.map_cons, List.map_nil, List.cons_append, List.nil_append, List.replicate, List.set_cons_zero, List.set_cons_succ, x_cons, x_nil, seqC_nx, seqC_rt, x_asg, asgK_nm, asgK_sub, retS_some, retH_some, sub1_eq, sub2_eq, x_expr, exK_eq, x_ret, retK_eq, x_retn, x_iff, iffK_t, iffK_f, x_fo, x_pas, x_par, runK_nx, runK_rt, bindE_some, bindL_some, bindO_some, bindI_some, bindB_some, liftB_some, retV_some, asB_bl, bin1_eq, e_bin, cmpK_eq, cmp1_eq, e_cmp, cmpR_t, cmpR_f, cmp2a_eq, e_cmp2, cmpR3_t, cmpR3_f, cmp3a_eq, e_cmp3, e_and, e_or, andK_t, andK_f, orK_t, orK_f, bOut_eq, notK_eq, e_not, negK_int, e_neg, iteK_t, iteK_f, e_ite, tupK2_eq, e_tup, lstK_eq, e_lst, e_dct0, ixK_eq, ix1_eq, e_ix, sl1_eq, sl2_eq, e_sl, e_rev, o_no, o_ex, oK_int, e_call, e_bi, e_me, s_nil, s_cons, consA_eq, consB_eq, e_lit, e_glob, e_var0, e_varS, e_comp, i_range1, i_range2, r2a_eq, i_val, vK_tup, vK_str, t_lit, t_cmp, t_cmp2, t_cmp3, t_call, t_bi, t_var, t_and, t_or, t_not, andT_t, andT_f, orT_t, orT_f, notT_eq, v_add, v_sub, c_lt, c_le, c_gt, c_ge, c_eqI, c_neI, c_eqS, c_neS, c_isN, c_isnotN, c_isB, c_isnotB, x_tup, x_lstV, sl_lstV, sl_tup, b_lenT, b_lenV, decide_true, decide_false, Bool.not_true, Bool.not_false, e2], o2⟩)
      have ea := b_all (h := h' ++ [CO.lst ([a, b, c].map fun x => CV.bl (nmV x))]) (r := h'.length) (bs := [nmV a, nmV b, nmV c]) get_new
      have o' : Off [] h (h' ++ [CO.lst ([a, b, c].map fun x => CV.bl (nmV x))]) := oc.trans (Off.app _ _ _)
      have x0 : ∀ h, ixV (.tup [k, a, b, c]) (.int 0) h = some k := fun _ => rfl
      have x1 : ∀ h, ixV (.tup [k, a, b, c]) (.int 1) h = some a := fun _ => rfl
      have x2 : ∀ h, ixV (.tup [k, a, b, c]) (.int 2) h = some b := fun _ => rfl
      have tk := (hp' k List.mem_cons_self).1.off o'
      simp only [List.map_cons, List.map_nil] at ec ea o' tk
      generalize hh : h' ++ [CO.lst [CV.bl (nmV a), CV.bl (nmV b), CV.bl (nmV c)]] = hz at ec ea o' tk
      have l4 : decide (((0 + 1 + 1 + 1 + 1 : Nat) : Int) = 4) = true := rfl
      by_cases hall : [nmV a, nmV b, nmV c].all id = true
      · rw [hall] at ea
        have hn : nmV a = true ∧ nmV b = true ∧ nmV c = true := by
          simp only [List.all_cons, List.all_nil, Bool.and_true, Bool.and_eq_true, id] at hall
          exact hall
        obtain ⟨ka, rfl, _⟩ := nmV_str hn.1
        obtain ⟨kb, rfl, _⟩ := nmV_str hn.2.1
        cases ek : isStr k with
        | false =>
          have ed : deedV (.tup [k, .str ka, .str kb, c]) = false := by
            have : kindV k = false := by cases k <;> first | rfl | cases ek
            simp only [deedV, this, Bool.and_false, Bool.false_and]
          refine ⟨hz, ?_, o'⟩
          rw [ed]
          simp only [b2, n2, run_eq, List.length_cons, List.length_nil, List.map_cons, List.map_nil, List.cons_append, List.nil_append, List.replicate, List.set_cons_zero, List.set_cons_succ, x_cons, x_nil, seqC_nx, seqC_rt, x_asg, asgK_nm, asgK_sub, retS_some, retH_some, sub1_eq, sub2_eq, x_expr, exK_eq, x_ret, retK_eq, x_retn, x_iff, iffK_t, iffK_f, x_fo, x_pas, x_par, runK_nx, runK_rt, bindE_some, bindL_some, bindO_some, bindI_some, bindB_some, liftB_some, retV_some, asB_bl, bin1_eq, e_bin, cmpK_eq, cmp1_eq, e_cmp, cmpR_t, cmpR_f, cmp2a_eq, e_cmp2, cmpR3_t, cmpR3_f, cmp3a_eq, e_cmp3, e_and, e_or, andK_t, andK_f, orK_t, orK_f, bOut_eq, notK_eq, e_not, negK_int, e_neg, iteK_t, iteK_f, e_ite, tupK2_eq, e_tup, lstK_eq, e_lst, e_dct0, ixK_eq, ix1_eq, e_ix, sl1_eq, sl2_eq, e_sl, e_rev, o_no, o_ex, oK_int, e_call, e_bi, e_me, s_nil, s_cons, consA_eq, consB_eq, e_lit, e_glob, e_var0, e_varS, e_comp, i_range1, i_range2, r2a_eq, i_val, vK_tup, vK_str, t_lit, t_cmp, t_cmp2, t_cmp3, t_call, t_bi, t_var, t_and, t_or, t_not, andT_t, andT_f, orT_t, orT_f, notT_eq, v_add, v_sub, c_lt, c_le, c_gt, c_ge, c_eqI, c_neI, c_eqS, c_neS, c_isN, c_isnotN, c_isB, c_isnotB, x_tup, x_lstV, sl_lstV, sl_tup, b_lenT, b_lenV, decide_true, decide_false, Bool.not_true, Bool.not_false, b_isi (i_tup t), isTup, l4, hc, ec, ea, x0, b_isi (i_str tk), ek]
        | true =>
          obtain ⟨kk, rfl⟩ : ∃ kk, k = .str kk := by cases k <;> first | exact ⟨_, rfl⟩ | cases ek
          have ein : inV hz (.str kk) (.tup [.str kSend, .str kTake]) = some (decide (kk ∈ [kSend, kTake])) := in_strsT (ks := [kSend, kTake])
          have ed : deedV (.tup [.str kk, .str ka, .str kb, c]) = (decide (kk ∈ [kSend, kTake]) && !decide (ka = kb)) := by
            simp only [deedV, hn.1, hn.2.1, hn.2.2, Bool.true_and, kindV]
            congr 1
            · by_cases h1 : kk = kSend <;> by_cases h2 : kk = kTake <;> simp [h1, h2]
            · by_cases h1 : ka = kb <;> simp [h1]
          refine ⟨hz, ?_, o'⟩
          rw [ed]
          unfold kSend kTake at ein ⊢
          cases hd : decide (kk ∈ [[115, 101, 110, 100], [116, 97, 107, 101]]) with
          | false =>
            rw [hd] at ein
            simp only [b2, n2, run_eq, List.length_cons, List.length_nil, List.map_cons, List.map_nil, List.cons_append, List.nil_append, List.replicate, List.set_cons_zero, List.set_cons_succ, x_cons, x_nil, seqC_nx, seqC_rt, x_asg, asgK_nm, asgK_sub, retS_some, retH_some, sub1_eq, sub2_eq, x_expr, exK_eq, x_ret, retK_eq, x_retn, x_iff, iffK_t, iffK_f, x_fo, x_pas, x_par, runK_nx, runK_rt, bindE_some, bindL_some, bindO_some, bindI_some, bindB_some, liftB_some, retV_some, asB_bl, bin1_eq, e_bin, cmpK_eq, cmp1_eq, e_cmp, cmpR_t, cmpR_f, cmp2a_eq, e_cmp2, cmpR3_t, cmpR3_f, cmp3a_eq, e_cmp3, e_and, e_or, andK_t, andK_f, orK_t, orK_f, bOut_eq, notK_eq, e_not, negK_int, e_neg, iteK_t, iteK_f, e_ite, tupK2_eq, e_tup, lstK_eq, e_lst, e_dct0, ixK_eq, ix1_eq, e_ix, sl1_eq, sl2_eq, e_sl, e_rev, o_no, o_ex, oK_int, e_call, e_bi, e_me, s_nil, s_cons, consA_eq, consB_eq, e_lit, e_glob, e_var0, e_varS, e_comp, i_range1, i_range2, r2a_eq, i_val, vK_tup, vK_str, t_lit, t_cmp, t_cmp2, t_cmp3, t_call, t_bi, t_var, t_and, t_or, t_not, andT_t, andT_f, orT_t, orT_f, notT_eq, v_add, v_sub, c_lt, c_le, c_gt, c_ge, c_eqI, c_neI, c_eqS, c_neS, c_isN, c_isnotN, c_isB, c_isnotB, x_tup, x_lstV, sl_lstV, sl_tup, b_lenT, b_lenV, decide_true, decide_false, Bool.not_true, Bool.not_false, b_isi (i_tup t), isTup, l4, hc, ec, ea, x0, b_isi (i_str tk), ek, c_in ein]
            rfl
          | true =>
            rw [hd] at ein
            simp only [b2, n2, run_eq, List.length_cons, List.length_nil, List.map_cons, List.map_nil, List.cons_append, List.nil_append, List.replicate, List.set_cons_zero, List.set_cons_succ, x_cons, x_nil, seqC_nx, seqC_rt, x_asg, asgK_nm, asgK_sub, retS_some, retH_some, sub1_eq, sub2_eq, x_expr, exK_eq, x_ret, retK_eq, x_retn, x_iff, iffK_t, iffK_f, x_fo, x_pas, x_par, runK_nx, runK_rt, bindE_some, bindL_some, bindO_some, bindI_some, bindB_some, liftB_some, retV_some, asB_bl, bin1_eq, e_bin, cmpK_eq, cmp1_eq, e_cmp, cmpR_t, cmpR_f, cmp2a_eq, e_cmp2, cmpR3_t, cmpR3_f, cmp3a_eq, e_cmp3, e_and, e_or, andK_t, andK_f, orK_t, orK_f, bOut_eq, notK_eq, e_not, negK_int, e_neg, iteK_t, iteK_f, e_ite, tupK2_eq, e_tup, lstK_eq, e_lst, e_dct0, ixK_eq, ix1_eq, e_ix, sl1_eq, sl2_eq, e_sl, e_rev, o_no, o_ex, oK_int, e_call, e_bi, e_me, s_nil, s_cons, consA_eq, consB_eq, e_lit, e_glob, e_var0, e_varS, e_comp, i_range1, i_range2, r2a_eq, i_val, vK_tup, vK_str, t_lit, t_cmp, t_cmp2, t_cmp3, t_call, t_bi, t_var, t_and, t_or, t_not, andT_t, andT_f, orT_t, orT_f, notT_eq, v_add, v_sub, c_lt, c_le, c_gt, c_ge, c_eqI, c_neI, c_eqS, c_neS, c_isN, c_isnotN, c_isB, c_isnotB, x_tup, x_lstV, sl_lstV, sl_tup, b_lenT, b_lenV, decide_true, decide_false, Bool.not_true, Bool.not_false, b_isi (i_tup t), isTup, l4, hc, ec, ea, x0, x1, x2, b_isi (i_str tk), ek, c_in ein]
            rfl
      · have hall' : [nmV a, nmV b, nmV c].all id = false := by simpa using hall
        rw [hall'] at ea
        have ed : deedV (.tup [k, a, b, c]) = false := by
          have : (nmV a && nmV b && nmV c) = false := by
            simp only [List.all_cons, List.all_nil, Bool.and_true, id, ← Bool.and_assoc] at hall'
            exact hall'
          simp only [deedV, this, Bool.false_and]
        refine ⟨hz, ?_, o'⟩
        rw [ed]
        simp only [b2, n2, run_eq, List.length_cons, List.length_nil, List.map_cons, List.map_nil, List.cons_append, List.nil_append, List.replicate, List.set_cons_zero, List.set_cons_succ, x_cons, x_nil, seqC_nx, seqC_rt, x_asg, asgK_nm, asgK_sub, retS_some, retH_some, sub1_eq, sub2_eq, x_expr, exK_eq, x_ret, retK_eq, x_retn, x_iff, iffK_t, iffK_f, x_fo, x_pas, x_par, runK_nx, runK_rt, bindE_some, bindL_some, bindO_some, bindI_some, bindB_some, liftB_some, retV_some, asB_bl, bin1_eq, e_bin, cmpK_eq, cmp1_eq, e_cmp, cmpR_t, cmpR_f, cmp2a_eq, e_cmp2, cmpR3_t, cmpR3_f, cmp3a_eq, e_cmp3, e_and, e_or, andK_t, andK_f, orK_t, orK_f, bOut_eq, notK_eq, e_not, negK_int, e_neg, iteK_t, iteK_f, e_ite, tupK2_eq, e_tup, lstK_eq, e_lst, e_dct0, ixK_eq, ix1_eq, e_ix, sl1_eq, sl2_eq, e_sl, e_rev, o_no, o_ex, oK_int, e_call, e_bi, e_me, s_nil, s_cons, consA_eq, consB_eq, e_lit, e_glob, e_var0, e_varS, e_comp, i_range1, i_range2, r2a_eq, i_val, vK_tup, vK_str, t_lit, t_cmp, t_cmp2, t_cmp3, t_call, t_bi, t_var, t_and, t_or, t_not, andT_t, andT_f, orT_t, orT_f, notT_eq, v_add, v_sub, c_lt, c_le, c_gt, c_ge, c_eqI, c_neI, c_eqS, c_neS, c_isN, c_isnotN, c_isB, c_isnotB, x_tup, x_lstV, sl_lstV, sl_tup, b_lenT, b_lenV, decide_true, decide_false, Bool.not_true, Bool.not_false, b_isi (i_tup t), isTup, l4, hc, ec, ea]
    · have ed : deedV (.tup xs) = false := by
        match xs, hl with
        | [], _ => rfl
        | [_], _ => rfl
        | [_, _], _ => rfl
        | [_, _, _], _ => rfl
        | [_, _, _, _], hl => exact absurd rfl hl
        | _ :: _ :: _ :: _ :: _ :: _, _ => rfl
      have hn : decide ((xs.length : Int) = 4) = false := decide_eq_false (by omega)
      refine ⟨h, ?_, .refl _ _⟩
      rw [ed]
      simp only [b2, n2, run_eq, List.length_cons, List.length_nil, List.map_cons, List.map_nil, List.cons_append, List.nil_append, List.replicate, List.set_cons_zero, List.set_cons_succ, x_cons, x_nil, seqC_nx, seqC_rt, x_asg, asgK_nm, asgK_sub, retS_some, retH_some, sub1_eq, sub2_eq, x_expr, exK_eq, x_ret, retK_eq, x_retn, x_iff, iffK_t, iffK_f, x_fo, x_pas, x_par, runK_nx, runK_rt, bindE_some, bindL_some, bindO_some, bindI_some, bindB_some, liftB_some, retV_some, asB_bl, bin1_eq, e_bin, cmpK_eq, cmp1_eq, e_cmp, cmpR_t, cmpR_f, cmp2a_eq, e_cmp2, cmpR3_t, cmpR3_f, cmp3a_eq, e_cmp3, e_and, e_or, andK_t, andK_f, orK_t, orK_f, bOut_eq, notK_eq, e_not, negK_int, e_neg, iteK_t, iteK_f, e_ite, tupK2_eq, e_tup, lstK_eq, e_lst, e_dct0, ixK_eq, ix1_eq, e_ix, sl1_eq, sl2_eq, e_sl, e_rev, o_no, o_ex, oK_int, e_call, e_bi, e_me, s_nil, s_cons, consA_eq, consB_eq, e_lit, e_glob, e_var0, e_varS, e_comp, i_range1, i_range2, r2a_eq, i_val, vK_tup, vK_str, t_lit, t_cmp, t_cmp2, t_cmp3, t_call, t_bi, t_var, t_and, t_or, t_not, andT_t, andT_f, orT_t, orT_f, notT_eq, v_add, v_sub, c_lt, c_le, c_gt, c_ge, c_eqI, c_neI, c_eqS, c_neS, c_isN, c_isnotN, c_isB, c_isnotB, x_tup, x_lstV, sl_lstV, sl_tup, b_lenT, b_lenV, decide_true, decide_false, Bool.not_true, Bool.not_false, b_isi (i_tup t), isTup, hn]
end TH

namespace TH
open PySem
theorem run_handof (F : Fns) (W : Nat) {h : CH} {k : List Nat} {a b c : CV} : runC F W n3.length b3 [.tup [.str k, a, b, c]] h = some (if k = kSend then a else b, h) := by
  unfold kSend
  by_cases e : k = [115, 101, 110, 100]
  · simp only [b3, n3, run_eq, List.length_cons, List.length_nil, List.map_cons, List.map_nil, List.cons_append, List.nil_append, List.replicate, List.set_cons_zero, List.set_cons_succ, x_cons, x_nil, seqC_nx, seqC_rt, x_asg, asgK_nm, asgK_sub, retS_some, retH_some, sub1_eq, sub2_eq, x_expr, exK_eq, x_ret, retK_eq, x_retn, x_iff, iffK_t, iffK_f, x_fo, x_pas, x_par, runK_nx, runK_rt, bindE_some, bindL_some, bindO_some, bindI_some, bindB_some, liftB_some, retV_some, asB_bl, bin1_eq, e_bin, cmpK_eq, cmp1_eq, e_cmp, cmpR_t, cmpR_f, cmp2a_eq, e_cmp2, cmpR3_t, cmpR3_f, cmp3a_eq, e_cmp3, e_and, e_or, andK_t, andK_f, orK_t, orK_f, bOut_eq, notK_eq, e_not, negK_int, e_neg, iteK_t, iteK_f, e_ite, tupK2_eq, e_tup, lstK_eq, e_lst, e_dct0, ixK_eq, ix1_eq, e_ix, sl1_eq, sl2_eq, e_sl, e_rev, o_no, o_ex, oK_int, e_call, e_bi, e_me, s_nil, s_cons, consA_eq, consB_eq, e_lit, e_glob, e_var0, e_varS, e_comp, i_range1, i_range2, r2a_eq, i_val, vK_tup, vK_str, t_lit, t_cmp, t_cmp2, t_cmp3, t_call, t_bi, t_var, t_and, t_or, t_not, andT_t, andT_f, orT_t, orT_f, notT_eq, v_add, v_sub, c_lt, c_le, c_gt, c_ge, c_eqI, c_neI, c_eqS, c_neS, c_isN, c_isnotN, c_isB, c_isnotB, x_tup, x_lstV, sl_lstV, sl_tup, b_lenT, b_lenV, decide_true, decide_false, Bool.not_true, Bool.not_false, at0, at1, at2, at3, Nat.reduceAdd, Nat.reduceSub, Nat.reduceMul, Int.reduceAdd, Int.reduceSub, Int.reduceMul, Int.reduceNeg, Int.reduceLT, Int.reduceLE, Int.reduceToNat, Int.cast_ofNat_Int, e, if_true]
  · simp only [b3, n3, run_eq, List.length_cons, List.length_nil, List.map_cons, List.map_nil, List.cons_append, List.nil_append, List.replicate, List.set_cons_zero, List.set_cons_succ, x_cons, x_nil, seqC_nx, seqC_rt, x_asg, asgK_nm, asgK_sub, retS_some, retH_some, sub1_eq, sub2_eq, x_expr, exK_eq, x_ret, retK_eq, x_retn, x_iff, iffK_t, iffK_f, x_fo, x_pas, x_par, runK_nx, runK_rt, bindE_some, bindL_some, bindO_some, bindI_some, bindB_some, liftB_some, retV_some, asB_bl, bin1_eq, e_bin, cmpK_eq, cmp1_eq, e_cmp, cmpR_t, cmpR_f, cmp2a_eq, e_cmp2, cmpR3_t, cmpR3_f, cmp3a_eq, e_cmp3, e_and, e_or, andK_t, andK_f, orK_t, orK_f, bOut_eq, notK_eq, e_not, negK_int, e_neg, iteK_t, iteK_f, e_ite, tupK2_eq, e_tup, lstK_eq, e_lst, e_dct0, ixK_eq, ix1_eq, e_ix, sl1_eq, sl2_eq, e_sl, e_rev, o_no, o_ex, oK_int, e_call, e_bi, e_me, s_nil, s_cons, consA_eq, consB_eq, e_lit, e_glob, e_var0, e_varS, e_comp, i_range1, i_range2, r2a_eq, i_val, vK_tup, vK_str, t_lit, t_cmp, t_cmp2, t_cmp3, t_call, t_bi, t_var, t_and, t_or, t_not, andT_t, andT_f, orT_t, orT_f, notT_eq, v_add, v_sub, c_lt, c_le, c_gt, c_ge, c_eqI, c_neI, c_eqS, c_neS, c_isN, c_isnotN, c_isB, c_isnotB, x_tup, x_lstV, sl_lstV, sl_tup, b_lenT, b_lenV, decide_true, decide_false, Bool.not_true, Bool.not_false, at0, at1, at2, at3, Nat.reduceAdd, Nat.reduceSub, Nat.reduceMul, Int.reduceAdd, Int.reduceSub, Int.reduceMul, Int.reduceNeg, Int.reduceLT, Int.reduceLE, Int.reduceToNat, Int.cast_ofNat_Int, e, if_false]
/-- what may be told -/
def TD (h : CH) (v : CV) : Prop := Part h v ∧ ∀ xs, v = .tup xs → xs.length = 4 → ∀ x ∈ xs, Part h x
theorem TD.off {h h' : CH} {v : CV} (t : TD h v) (o : Off [] h h') : TD h' v := ⟨t.1.off o, fun xs e l x hx => (t.2 xs e l x hx).off o⟩
theorem run_told (F : Fns) (W : Nat) (h0 : ∀ (h : CH) (v : CV), Typ h v → F 0 [v] h = some (.bl (isInt v), h)) (h1 : ∀ (h : CH) (v : CV), Part h v → ∃ h', F 1 [v] h = some (.bl (nmV v), h') ∧ Off [] h h')
    (h2 : ∀ (h : CH) (v : CV), TD h v → ∃ h', F 2 [v] h = some (.bl (deedV v), h') ∧ Off [] h h') {h : CH} {v : CV} (t : TD h v) :
    ∃ r h', runC F W n8.length b8 [v] h = some (.ref r, h') ∧ h'[r]? = some (.lst [.bl (isInt v), .bl (nmV v), .bl (deedV v)]) ∧ Off [] h h' := by
  obtain ⟨ha, ea, oa⟩ := h1 h v t.1
  obtain ⟨hb, eb, ob⟩ := h2 ha v (t.off oa)
  have g : (hb ++ [CO.lst [.bl (isInt v), .bl (nmV v), .bl (deedV v)]])[hb.length]? = some (.lst [.bl (isInt v), .bl (nmV v), .bl (deedV v)]) := get_new
  have ec := comp_all (F := F) (s := [some v, some (.ref hb.length), none]) (h := hb ++ [CO.lst [.bl (isInt v), .bl (nmV v), .bl (deedV v)]]) (elt := .bi (.isi .bool) (.cons (.var 2) .nil)) (i := 2) (src := .cell hb.length) (xs := [.bl (isInt v), .bl (nmV v), .bl (deedV v)]) (fun _ => .bl true) (fun i => src_cell g) (src_cellL g) (lim_big (by simp)) (fun x hx => by
    have : ∃ b, x = .bl b := by
      simp only [List.mem_cons, List.not_mem_nil, or_false] at hx
      rcases hx with rfl | rfl | rfl <;> exact ⟨_, rfl⟩
    obtain ⟨b, rfl⟩ := this
    simp only [run_eq, List.length_cons, List.length_nil, List.map_cons, List.map_nil, List.cons_append, List.nil_append, List.replicate, List.set_cons_zero, List.set_cons_succ, x_cons, x_nil, seqC_nx, seqC_rt, x_asg, asgK_nm, asgK_sub, retS_some, retH_some, sub1_eq, sub2_eq, x_expr, exK_eq, x_ret, retK_eq, x_retn, x_iff, iffK_t, iffK_f, x_fo, x_pas, x_par, runK_nx, runK_rt, bindE_some, bindL_some, bindO_some, bindI_some, bindB_some, liftB_some, retV_some, asB_bl, bin1_eq, e_bin, cmpK_eq, cmp1_eq, e_cmp, cmpR_t, cmpR_f, cmp2a_eq, e_cmp2, cmpR3_t, cmpR3_f, cmp3a_eq, e_cmp3, e_and, e_or, andK_t, andK_f, orK_t, orK_f, bOut_eq, notK_eq, e_not, negK_int, e_neg, iteK_t, iteK_f, e_ite, tupK2_eq, e_tup, lstK_eq, e_lst, e_dct0, ixK_eq, ix1_eq, e_ix, sl1_eq, sl2_eq, e_sl, e_rev, o_no, o_ex, oK_int, e_call, e_bi, e_me, s_nil, s_cons, consA_eq, consB_eq, e_lit, e_glob, e_var0, e_varS, e_comp, i_range1, i_range2, r2a_eq, i_val, vK_tup, vK_str, t_lit, t_cmp, t_cmp2, t_cmp3, t_call, t_bi, t_var, t_and, t_or, t_not, andT_t, andT_f, orT_t, orT_f, notT_eq, v_add, v_sub, c_lt, c_le, c_gt, c_ge, c_eqI, c_neI, c_eqS, c_neS, c_isN, c_isnotN, c_isB, c_isnotB, x_tup, x_lstV, sl_lstV, sl_tup, b_lenT, b_lenV, decide_true, decide_false, Bool.not_true, Bool.not_false, b_isi (i_bool (h := hb ++ [CO.lst [.bl (isInt v), .bl (nmV v), .bl (deedV v)]]) (v := .bl b) trivial)]
    rfl)
  have eall := b_all (h := (hb ++ [CO.lst [.bl (isInt v), .bl (nmV v), .bl (deedV v)]]) ++ [CO.lst ([CV.bl (isInt v), .bl (nmV v), .bl (deedV v)].map fun _ => CV.bl true)]) (r := (hb ++ [CO.lst [.bl (isInt v), .bl (nmV v), .bl (deedV v)]]).length) (bs := [true, true, true]) get_new
  have et : ([true, true, true] : List Bool).all id = true := rfl
  rw [et] at eall
  simp only [List.map_cons, List.map_nil] at ec eall
  refine ⟨hb.length, (hb ++ [CO.lst [.bl (isInt v), .bl (nmV v), .bl (deedV v)]]) ++ [CO.lst [CV.bl true, .bl true, .bl true]], ?_, get_app g, oa.trans (ob.trans ((Off.app _ _ _).trans (Off.app _ _ _)))⟩
  · simp only [b8, n8, run_eq, List.length_cons, List.length_nil, List.map_cons, List.map_nil, List.cons_append, List.nil_append, List.replicate, List.set_cons_zero, List.set_cons_succ, x_cons, x_nil, seqC_nx, seqC_rt, x_asg, asgK_nm, asgK_sub, retS_some, retH_some, sub1_eq, sub2_eq, x_expr, exK_eq, x_ret, retK_eq, x_retn, x_iff, iffK_t, iffK_f, x_fo, x_pas, x_par, runK_nx, runK_rt, bindE_some, bindL_some, bindO_some, bindI_some, bindB_some, liftB_some, retV_some, asB_bl, bin1_eq, e_bin, cmpK_eq, cmp1_eq, e_cmp, cmpR_t, cmpR_f, cmp2a_eq, e_cmp2, cmpR3_t, cmpR3_f, cmp3a_eq, e_cmp3, e_and, e_or, andK_t, andK_f, orK_t, orK_f, bOut_eq, notK_eq, e_not, negK_int, e_neg, iteK_t, iteK_f, e_ite, tupK2_eq, e_tup, lstK_eq, e_lst, e_dct0, ixK_eq, ix1_eq, e_ix, sl1_eq, sl2_eq, e_sl, e_rev, o_no, o_ex, oK_int, e_call, e_bi, e_me, s_nil, s_cons, consA_eq, consB_eq, e_lit, e_glob, e_var0, e_varS, e_comp, i_range1, i_range2, r2a_eq, i_val, vK_tup, vK_str, t_lit, t_cmp, t_cmp2, t_cmp3, t_call, t_bi, t_var, t_and, t_or, t_not, andT_t, andT_f, orT_t, orT_f, notT_eq, v_add, v_sub, c_lt, c_le, c_gt, c_ge, c_eqI, c_neI, c_eqS, c_neS, c_isN, c_isnotN, c_isB, c_isnotB, x_tup, x_lstV, sl_lstV, sl_tup, b_lenT, b_lenV, decide_true, decide_false, Bool.not_true, Bool.not_false, h0 h v t.1.1, ea, eb, vK_lst g, ec, eall]
/-- neither a whole number nor a name nor a deed -/
def Odd (h : CH) (x : CV) : Prop := TD h x ∧ isInt x = false ∧ nmV x = false ∧ deedV x = false
theorem Odd.off {h h' : CH} {v : CV} (t : Odd h v) (o : Off [] h h') : Odd h' v := ⟨t.1.off o, t.2⟩
theorem odd_str {h : CH} {k : List Nat} (hk : nmB k = false) (hl : k.length ≤ 1000) : Odd h (.str k) := ⟨⟨⟨trivial, fun _ e => by cases e; exact hl⟩, fun _ e => by cases e⟩, rfl, hk, rfl⟩
theorem nm_bad {k : List Nat} {c : Nat} (hc : c ∈ k) (hn : c ∉ al) : nmB k = false := by
  cases e : nmB k with
  | false => rfl
  | true => exact absurd (((nmB_iff k).mp e).2.2 c hc) hn
theorem nm_long {k : List Nat} (hc : 8 < k.length) : nmB k = false := by
  cases e : nmB k with
  | false => rfl
  | true => have := ((nmB_iff k).mp e).2.1; omega
theorem m_upper {k : List Nat} {h : CH} (e : k.length ≤ 1000 ∧ k.all (fun c => decide (c < 128)) = true) : meV .upper (.str k) [] h = some (.str (k.map upC), h) := by simp only [meV, e, and_self, if_true]
theorem r_upper {k : List Nat} {h : CH} : recvOk .upper (.str k) h = true := rfl
theorem run_nonames (F : Fns) (W : Nat) {h : CH} {k : List Nat} (hk : Nm k) : ∃ r h' xs, runC F W n9.length b9 [.str k] h = some (.ref r, h') ∧ h'[r]? = some (.lst xs) ∧ (∀ x ∈ xs, Odd h' x) ∧ xs.length ≤ 30 ∧ Off [] h h' := by
  have hl := hk.2.1
  have hll : k.length ≤ lim := lim_big (by omega)
  have s7 : cut k none (some 7) = k.take 7 := cut_to k 7
  have s6 : cut k none (some 6) = k.take 6 := cut_to k 6
  have s1 : cut k none (some 1) = k.take 1 := cut_to k 1
  have l7 : (k.take 7).length ≤ 8 := by rw [List.length_take]; omega
  have l6 : (k.take 6).length ≤ 8 := by rw [List.length_take]; omega
  have l1 : (k.take 1).length = 1 := by rw [List.length_take]; have := hk.1; omega
  have hu : k.length ≤ 1000 ∧ k.all (fun c => decide (c < 128)) = true := ⟨by omega, by
    rw [List.all_eq_true]
    intro c hc
    have : ∀ c ∈ al, c < 128 := by decide
    exact decide_eq_true (this c (hk.2.2 c hc))⟩
  have add : ∀ (a b : List Nat) (h : CH), a.length ≤ 100 → b.length ≤ 100 → binV .add (.str a) (.str b) h = some (.str (a ++ b), h) := fun a b h ha hb => v_addS (lim_big (by omega))
  have a1 := fun h => add k [97, 98, 99, 100, 101, 102, 103, 104, 105] h (by omega) (by decide)
  have a2 := fun h => add (k.take 7) [49] h (by omega) (by decide)
  have a3 := fun h => add (k.take 6) [32, 97] h (by omega) (by decide)
  have a4 := fun h => add (k.take 7) [33] h (by omega) (by decide)
  have a5 := fun h => add (k.take 1) [97, 98, 99, 100, 101, 102, 103, 104] h (by omega) (by decide)
  have a6 := fun h => add (k.take 6) [62, 98] h (by omega) (by decide)
  have a7 := fun h => add (k.take 7) [65] h (by omega) (by decide)
  have mu := fun h => m_upper (k := k) (h := h) hu
  have sl := fun (lo hi : Option Int) h => sl_str (s := k) (lo := lo) (hi := hi) (h := h) hll
  simp only [b9, n9, run_eq, List.length_cons, List.length_nil, List.map_cons, List.map_nil, List.cons_append, List.nil_append, List.replicate, List.set_cons_zero, List.set_cons_succ, x_cons, x_nil, seqC_nx, seqC_rt, x_asg, asgK_nm, asgK_sub, retS_some, retH_some, sub1_eq, sub2_eq, x_expr, exK_eq, x_ret, retK_eq, x_retn, x_iff, iffK_t, iffK_f, x_fo, x_pas, x_par, runK_nx, runK_rt, bindE_some, bindL_some, bindO_some, bindI_some, bindB_some, liftB_some, retV_some, asB_bl, bin1_eq, e_bin, cmpK_eq, cmp1_eq, e_cmp, cmpR_t, cmpR_f, cmp2a_eq, e_cmp2, cmpR3_t, cmpR3_f, cmp3a_eq, e_cmp3, e_and, e_or, andK_t, andK_f, orK_t, orK_f, bOut_eq, notK_eq, e_not, negK_int, e_neg, iteK_t, iteK_f, e_ite, tupK2_eq, e_tup, lstK_eq, e_lst, e_dct0, ixK_eq, ix1_eq, e_ix, sl1_eq, sl2_eq, e_sl, e_rev, o_no, o_ex, oK_int, e_call, e_bi, e_me, s_nil, s_cons, consA_eq, consB_eq, e_lit, e_glob, e_var0, e_varS, e_comp, i_range1, i_range2, r2a_eq, i_val, vK_tup, vK_str, t_lit, t_cmp, t_cmp2, t_cmp3, t_call, t_bi, t_var, t_and, t_or, t_not, andT_t, andT_f, orT_t, orT_f, notT_eq, v_add, v_sub, c_lt, c_le, c_gt, c_ge, c_eqI, c_neI, c_eqS, c_neS, c_isN, c_isnotN, c_isB, c_isnotB, x_tup, x_lstV, sl_lstV, sl_tup, b_lenT, b_lenV, decide_true, decide_false, Bool.not_true, Bool.not_false, at0, at1, at2, at3, Nat.reduceAdd, Nat.reduceSub, Nat.reduceMul, Int.reduceAdd, Int.reduceSub, Int.reduceMul, Int.reduceNeg, Int.reduceLT, Int.reduceLE, Int.reduceToNat, Int.cast_ofNat_Int, get_at, get_at0, set_at, set_at0, v_addR, addO_ok, b_lenR, lenO_lst, x_ref, ixO_lst, sl_ref, slO_lst, set_ref, m_appR, appO_lst, b_allR, b_anyR, b_listT, vK_ref, vO_lst, me1_app, recO_lst, when_t, List.append_assoc, List.length_append, List.getElem?_cons_zero, List.getElem?_cons_succ, Nat.zero_add, lim_big, lim_lt, Nat.reduceLeDiff, Nat.reduceLT, sl, s7, s6, s1, me1_eq r_upper, mu, a1, a2, a3, a4, a5, a6, a7]
  refine ⟨_, _, _, rfl, get_at, ?_, by simp, Off.app _ _ _⟩
  intro x hx
  simp only [List.mem_cons, List.not_mem_nil, or_false] at hx
  have bad : ∀ (a b : List Nat) (c : Nat) (h : CH), a.length ≤ 100 → b.length ≤ 100 → c ∈ b → c ∉ al → Odd h (.str (a ++ b)) := fun a b c h ha hb hc hn => odd_str (nm_bad (List.mem_append_right _ hc) hn) (by rw [List.length_append]; omega)
  rcases hx with rfl | rfl | rfl | rfl | rfl | rfl | rfl | rfl | rfl | rfl | rfl | rfl | rfl | rfl | rfl | rfl | rfl | rfl | rfl | rfl | rfl | rfl | rfl
  · exact odd_str (by decide) (by decide)
  · exact odd_str (nm_long (by simp only [List.length_append, List.length_cons, List.length_nil]; omega)) (by simp only [List.length_append, List.length_cons, List.length_nil]; omega)
  · refine odd_str ?_ (by rw [List.length_map]; omega)
    obtain ⟨c, hc⟩ : ∃ c, c ∈ k := by
      cases k with
      | nil => have := hk.1; simp at this
      | cons c t => exact ⟨c, List.mem_cons_self⟩
    have hu : ∀ c ∈ al, upC c ∉ al := by decide
    exact nm_bad (List.mem_map.mpr ⟨c, hc, rfl⟩) (hu c (hk.2.2 c hc))
  · exact bad _ _ 49 _ (by omega) (by decide) (by decide) (by decide)
  · exact bad _ _ 32 _ (by omega) (by decide) (by decide) (by decide)
  · exact odd_str (by decide) (by decide)
  · exact odd_str (by decide) (by decide)
  · exact odd_str (by decide) (by decide)
  · exact odd_str (by decide) (by decide)
  · exact bad _ _ 33 _ (by omega) (by decide) (by decide) (by decide)
  · exact odd_str (nm_long (by rw [List.length_append, l1]; decide)) (by rw [List.length_append, l1]; decide)
  · exact ⟨⟨⟨trivial, fun _ e => by cases e⟩, fun _ e => by cases e⟩, rfl, rfl, rfl⟩
  · exact ⟨⟨⟨trivial, fun _ e => by cases e⟩, fun _ e => by cases e⟩, rfl, rfl, rfl⟩
  · exact ⟨⟨⟨trivial, fun _ e => by cases e⟩, fun _ e => by cases e⟩, rfl, rfl, rfl⟩
  · exact ⟨⟨⟨trivial, fun _ e => by cases e⟩, fun xs e l => by cases e; cases l⟩, rfl, rfl, rfl⟩
  · exact ⟨⟨⟨trivial, fun _ e => by cases e⟩, fun xs e l => by cases e; cases l⟩, rfl, rfl, rfl⟩
  · exact ⟨⟨⟨.inl ⟨_, get_at⟩, fun _ e => by cases e⟩, fun _ e => by cases e⟩, rfl, rfl, rfl⟩
  · exact ⟨⟨⟨.inl ⟨_, get_at⟩, fun _ e => by cases e⟩, fun _ e => by cases e⟩, rfl, rfl, rfl⟩
  · exact ⟨⟨⟨.inr ⟨_, get_at⟩, fun _ e => by cases e⟩, fun _ e => by cases e⟩, rfl, rfl, rfl⟩
  · exact odd_str (by decide) (by decide)
  · exact bad _ _ 62 _ (by omega) (by decide) (by decide) (by decide)
  · exact ⟨⟨⟨trivial, fun _ e => by cases e⟩, fun xs e l => by cases e; cases l⟩, rfl, rfl, rfl⟩
  · exact bad _ _ 65 _ (by omega) (by decide) (by decide) (by decide)
/-- what is no deed -/
def ND (h : CH) (x : CV) : Prop := TD h x ∧ deedV x = false
theorem ND.off {h h' : CH} {v : CV} (t : ND h v) (o : Off [] h h') : ND h' v := ⟨t.1.off o, t.2⟩
theorem part_str {h : CH} {k : List Nat} (hl : k.length ≤ 1000) : Part h (.str k) := ⟨trivial, fun _ e => by cases e; exact hl⟩
theorem td4 {h : CH} {a b c d : CV} (ha : Part h a) (hb : Part h b) (hc : Part h c) (hd : Part h d) : TD h (.tup [a, b, c, d]) := ⟨⟨trivial, fun _ e => by cases e⟩, fun xs e _ x hx => by
  cases e
  simp only [List.mem_cons, List.not_mem_nil, or_false] at hx
  rcases hx with rfl | rfl | rfl | rfl <;> assumption⟩
theorem td_tup {h : CH} {xs : List CV} (hl : xs.length ≠ 4) : TD h (.tup xs) := ⟨⟨trivial, fun _ e => by cases e⟩, fun ys e l => by cases e; exact absurd l hl⟩
theorem nd_aux (F : Fns) (W : Nat) (h9 : ∀ (h : CH) (k : List Nat), Nm k → ∃ r h' xs, F 9 [.str k] h = some (.ref r, h') ∧ h'[r]? = some (.lst xs) ∧ (∀ x ∈ xs, Odd h' x) ∧ xs.length ≤ 30 ∧ Off [] h h') {h H0 : CH} {k a b c : List Nat} {T : CV} {xs0 : List CV} {q0 : Nat}
    (hkl : k.length ≤ 8) (ha : Nm a) (hb : Nm b) (hc : Nm c) (hq : H0[q0]? = some (.lst xs0)) (hx : ∀ x ∈ xs0, ND H0 x) (hl : xs0.length ≤ 20) (ho : Off [] h H0) :
    ∃ r h' xs, runK (seqC (bindI (bindE (F 9 [.str c] H0) vK) (foK F W (.nm 6) (.cons (.asg (.nm 5) (.bin .add (.var 5) (.lst (.cons (.tup (.cons (.var 0) (.cons (.var 6) (.cons (.var 2) (.cons (.var 3) .nil))))) (.cons (.tup (.cons (.var 0) (.cons (.var 1) (.cons (.var 6) (.cons (.var 3) .nil))))) (.cons (.tup (.cons (.var 0) (.cons (.var 1) (.cons (.var 2) (.cons (.var 6) .nil))))) .nil)))))) .nil) [some (.str k), some (.str a), some (.str b), some (.str c), some T, some (.ref q0), none])) (execCs F W (.cons (.ret (.var 5)) .nil))) = some (.ref r, h') ∧ h'[r]? = some (.lst xs) ∧ (∀ x ∈ xs, ND h' x) ∧ xs.length ≤ 150 ∧ Off [] h h' := by
  obtain ⟨r, h1, ys, e9, g9, odd9, l9, o9⟩ := h9 H0 c hc
  obtain ⟨s', h', e, x, q, xs, rfl, g, nd, l, o⟩ := foK_inv (F := F) (W := W) (s := [some (.str k), some (.str a), some (.str b), some (.str c), some T, some (.ref q0), none]) (h := h1) (t := .nm 6) (b := (.cons (.asg (.nm 5) (.bin .add (.var 5) (.lst (.cons (.tup (.cons (.var 0) (.cons (.var 6) (.cons (.var 2) (.cons (.var 3) .nil))))) (.cons (.tup (.cons (.var 0) (.cons (.var 1) (.cons (.var 6) (.cons (.var 3) .nil))))) (.cons (.tup (.cons (.var 0) (.cons (.var 1) (.cons (.var 2) (.cons (.var 6) .nil))))) .nil)))))) .nil)) (src := .cell r)
    (fun j s' h' => ∃ (x : Option CV) (q : Nat) (xs : List CV), s' = [some (.str k), some (.str a), some (.str b), some (.str c), some T, some (.ref q), x] ∧ h'[q]? = some (.lst xs) ∧ (∀ x ∈ xs, ND h' x) ∧ xs.length ≤ 20 + 3 * j ∧ Off [] h1 h')
    ⟨none, q0, xs0, rfl, o9.get hq (by simp), fun x hx' => (hx x hx').off o9, by omega, .refl _ _⟩
    (fun j s' h' hj hi => by
      rw [src_cellL g9] at hj
      obtain ⟨x, q, xs, rfl, g, nd, l, o⟩ := hi
      have g9' := o.get g9 (by simp)
      have oy := (odd9 ys[j] (List.getElem_mem hj)).off o
      generalize hy : ys[j] = y at oy
      have g' : ∀ l, (h' ++ l)[q]? = some (.lst xs) := fun l => get_app g
      have hlim : xs.length + 3 ≤ lim := lim_big (by omega)
      refine ⟨y, _, _, by rw [src_cell g9', List.getElem?_eq_getElem hj, hy], by rw [foB_nm]; simp only [run_eq, List.length_cons, List.length_nil, List.map_cons, List.map_nil, List.cons_append, List.nil_append, List.replicate, List.set_cons_zero, List.set_cons_succ, x_cons, x_nil, seqC_nx, seqC_rt, x_asg, asgK_nm, asgK_sub, retS_some, retH_some, sub1_eq, sub2_eq, x_expr, exK_eq, x_ret, retK_eq, x_retn, x_iff, iffK_t, iffK_f, x_fo, x_pas, x_par, runK_nx, runK_rt, bindE_some, bindL_some, bindO_some, bindI_some, bindB_some, liftB_some, retV_some, asB_bl, bin1_eq, e_bin, cmpK_eq, cmp1_eq, e_cmp, cmpR_t, cmpR_f, cmp2a_eq, e_cmp2, cmpR3_t, cmpR3_f, cmp3a_eq, e_cmp3, e_and, e_or, andK_t, andK_f, orK_t, orK_f, bOut_eq, notK_eq, e_not, negK_int, e_neg, iteK_t, iteK_f, e_ite, tupK2_eq, e_tup, lstK_eq, e_lst, e_dct0, ixK_eq, ix1_eq, e_ix, sl1_eq, sl2_eq, e_sl, e_rev, o_no, o_ex, oK_int, e_call, e_bi, e_me, s_nil, s_cons, consA_eq, consB_eq, e_lit, e_glob, e_var0, e_varS, e_comp, i_range1, i_range2, r2a_eq, i_val, vK_tup, vK_str, t_lit, t_cmp, t_cmp2, t_cmp3, t_call, t_bi, t_var, t_and, t_or, t_not, andT_t, andT_f, orT_t, orT_f, notT_eq, v_add, v_sub, c_lt, c_le, c_gt, c_ge, c_eqI, c_neI, c_eqS, c_neS, c_isN, c_isnotN, c_isB, c_isnotB, x_tup, x_lstV, sl_lstV, sl_tup, b_lenT, b_lenV, decide_true, decide_false, Bool.not_true, Bool.not_false, at0, at1, at2, at3, Nat.reduceAdd, Nat.reduceSub, Nat.reduceMul, Int.reduceAdd, Int.reduceSub, Int.reduceMul, Int.reduceNeg, Int.reduceLT, Int.reduceLE, Int.reduceToNat, Int.cast_ofNat_Int, get_at, get_at0, set_at, set_at0, v_addR, addO_ok, b_lenR, lenO_lst, x_ref, ixO_lst, sl_ref, slO_lst, set_ref, m_appR, appO_lst, b_allR, b_anyR, b_listT, vK_ref, vO_lst, me1_app, recO_lst, when_t, List.append_assoc, List.length_append, List.getElem?_cons_zero, List.getElem?_cons_succ, Nat.zero_add, lim_big, lim_lt, Nat.reduceLeDiff, Nat.reduceLT, g', hlim]; rfl, some y, h'.length + 1, _, rfl, get_at, ?_, ?_, o.trans (Off.app _ _ _)⟩
      · intro z hz
        have oo := Off.app [] h' [CO.lst [CV.tup [CV.str k, y, CV.str b, CV.str c], CV.tup [CV.str k, CV.str a, y, CV.str c], CV.tup [CV.str k, CV.str a, CV.str b, y]], CO.lst (xs ++ [CV.tup [CV.str k, y, CV.str b, CV.str c], CV.tup [CV.str k, CV.str a, y, CV.str c], CV.tup [CV.str k, CV.str a, CV.str b, y]])]
        have py := (oy.off oo).1.1
        have hny := oy.2.2.1
        rcases List.mem_append.mp hz with hz | hz
        · exact (nd z hz).off oo
        · simp only [List.mem_cons, List.not_mem_nil, or_false] at hz
          have pk : ∀ h : CH, Part h (.str k) := fun h => part_str (by omega)
          have pa : ∀ h : CH, Part h (.str a) := fun h => part_str (by have := ha.2.1; omega)
          have pb : ∀ h : CH, Part h (.str b) := fun h => part_str (by have := hb.2.1; omega)
          have pc : ∀ h : CH, Part h (.str c) := fun h => part_str (by have := hc.2.1; omega)
          rcases hz with rfl | rfl | rfl
          · exact ⟨td4 (pk _) py (pb _) (pc _), by simp only [deedV, hny, Bool.false_and]⟩
          · exact ⟨td4 (pk _) (pa _) py (pc _), by simp only [deedV, hny, Bool.false_and, Bool.and_false]⟩
          · exact ⟨td4 (pk _) (pa _) (pb _) py, by simp only [deedV, hny, Bool.false_and, Bool.and_false]⟩
      · simp only [List.length_append, List.length_cons, List.length_nil]; omega)
    (fun s' h' hi => by
      obtain ⟨x, q, xs, rfl, g, nd, l, o⟩ := hi
      rw [src_cellL g9, src_cell (o.get g9 (by simp)), List.getElem?_eq_none (Nat.le_refl _)])
  rw [src_cellL g9] at l
  refine ⟨q, h', xs, ?_, g, nd, by omega, ho.trans (o9.trans o)⟩
  simp only [run_eq, List.length_cons, List.length_nil, List.map_cons, List.map_nil, List.cons_append, List.nil_append, List.replicate, List.set_cons_zero, List.set_cons_succ, x_cons, x_nil, seqC_nx, seqC_rt, x_asg, asgK_nm, asgK_sub, retS_some, retH_some, sub1_eq, sub2_eq, x_expr, exK_eq, x_ret, retK_eq, x_retn, x_iff, iffK_t, iffK_f, x_fo, x_pas, x_par, runK_nx, runK_rt, bindE_some, bindL_some, bindO_some, bindI_some, bindB_some, liftB_some, retV_some, asB_bl, bin1_eq, e_bin, cmpK_eq, cmp1_eq, e_cmp, cmpR_t, cmpR_f, cmp2a_eq, e_cmp2, cmpR3_t, cmpR3_f, cmp3a_eq, e_cmp3, e_and, e_or, andK_t, andK_f, orK_t, orK_f, bOut_eq, notK_eq, e_not, negK_int, e_neg, iteK_t, iteK_f, e_ite, tupK2_eq, e_tup, lstK_eq, e_lst, e_dct0, ixK_eq, ix1_eq, e_ix, sl1_eq, sl2_eq, e_sl, e_rev, o_no, o_ex, oK_int, e_call, e_bi, e_me, s_nil, s_cons, consA_eq, consB_eq, e_lit, e_glob, e_var0, e_varS, e_comp, i_range1, i_range2, r2a_eq, i_val, vK_tup, vK_str, t_lit, t_cmp, t_cmp2, t_cmp3, t_call, t_bi, t_var, t_and, t_or, t_not, andT_t, andT_f, orT_t, orT_f, notT_eq, v_add, v_sub, c_lt, c_le, c_gt, c_ge, c_eqI, c_neI, c_eqS, c_neS, c_isN, c_isnotN, c_isB, c_isnotB, x_tup, x_lstV, sl_lstV, sl_tup, b_lenT, b_lenV, decide_true, decide_false, Bool.not_true, Bool.not_false, at0, at1, at2, at3, Nat.reduceAdd, Nat.reduceSub, Nat.reduceMul, Int.reduceAdd, Int.reduceSub, Int.reduceMul, Int.reduceNeg, Int.reduceLT, Int.reduceLE, Int.reduceToNat, Int.cast_ofNat_Int, get_at, get_at0, set_at, set_at0, v_addR, addO_ok, b_lenR, lenO_lst, x_ref, ixO_lst, sl_ref, slO_lst, set_ref, m_appR, appO_lst, b_allR, b_anyR, b_listT, vK_ref, vO_lst, me1_app, recO_lst, when_t, List.append_assoc, List.length_append, List.getElem?_cons_zero, List.getElem?_cons_succ, Nat.zero_add, lim_big, lim_lt, Nat.reduceLeDiff, Nat.reduceLT, e9, g9, e]
theorem run_nodeeds (F : Fns) (W : Nat) (h9 : ∀ (h : CH) (k : List Nat), Nm k → ∃ r h' xs, F 9 [.str k] h = some (.ref r, h') ∧ h'[r]? = some (.lst xs) ∧ (∀ x ∈ xs, Odd h' x) ∧ xs.length ≤ 30 ∧ Off [] h h') {h : CH} {k a b c : List Nat} (hk : k = kSend ∨ k = kTake) (ha : Nm a) (hb : Nm b) (hc : Nm c) :
    ∃ r h' xs, runC F W n10.length b10 [.str k, .str a, .str b, .str c] h = some (.ref r, h') ∧ h'[r]? = some (.lst xs) ∧ (∀ x ∈ xs, ND h' x) ∧ xs.length ≤ 150 ∧ Off [] h h' := by
  have hkl : k.length ≤ 8 := by rcases hk with rfl | rfl <;> decide
  have hu : k.length ≤ 1000 ∧ k.all (fun c => decide (c < 128)) = true := by rcases hk with rfl | rfl <;> decide
  have mu := fun h => m_upper (k := k) (h := h) hu
  have hal := ha.2.1
  have sl := fun h => sl_str (s := a) (lo := none) (hi := some 7) (h := h) (lim_big (by omega))
  have s7 : cut a none (some 7) = a.take 7 := cut_to a 7
  have l7 : (a.take 7).length ≤ 8 := by rw [List.length_take]; omega
  have ad := fun h => v_addS (h := h) (a := a.take 7) (b := [120]) (lim_big (by simp only [List.length_cons, List.length_nil]; omega))
  have c3 : cut [CV.str k, .str a, .str b, .str c] none (some 3) = [.str k, .str a, .str b] := cut_to [CV.str k, .str a, .str b, .str c] 3
  have c1 : cut [CV.str k, .str a, .str b, .str c] (some 1) none = [.str a, .str b, .str c] := cut_from [CV.str k, .str a, .str b, .str c] 1
  have m4 := fun h => v_mulT (xs := [CV.str k]) (k := 4) (h := h) ⟨by decide, by decide, by simp, by simp⟩
  have r4 : (List.replicate (4 : Int).toNat [CV.str k]).flatten = [.str k, .str k, .str k, .str k] := rfl
  rw [r4] at m4
  have at' : ∀ (xs ys : List CV) h, xs.length ≤ 100 → ys.length ≤ 100 → binV .add (.tup xs) (.tup ys) h = some (.tup (xs ++ ys), h) := fun xs ys h h1 h2 => v_addT (lim_big (by omega))
  simp only [b10, n10, run_eq, List.length_cons, List.length_nil, List.map_cons, List.map_nil, List.cons_append, List.nil_append, List.replicate, List.set_cons_zero, List.set_cons_succ, x_cons, x_nil, seqC_nx, seqC_rt, x_asg, asgK_nm, asgK_sub, retS_some, retH_some, sub1_eq, sub2_eq, x_expr, exK_eq, x_ret, retK_eq, x_retn, x_iff, iffK_t, iffK_f, x_fo, x_pas, x_par, runK_nx, runK_rt, bindE_some, bindL_some, bindO_some, bindI_some, bindB_some, liftB_some, retV_some, asB_bl, bin1_eq, e_bin, cmpK_eq, cmp1_eq, e_cmp, cmpR_t, cmpR_f, cmp2a_eq, e_cmp2, cmpR3_t, cmpR3_f, cmp3a_eq, e_cmp3, e_and, e_or, andK_t, andK_f, orK_t, orK_f, bOut_eq, notK_eq, e_not, negK_int, e_neg, iteK_t, iteK_f, e_ite, tupK2_eq, e_tup, lstK_eq, e_lst, e_dct0, ixK_eq, ix1_eq, e_ix, sl1_eq, sl2_eq, e_sl, e_rev, o_no, o_ex, oK_int, e_call, e_bi, e_me, s_nil, s_cons, consA_eq, consB_eq, e_lit, e_glob, e_var0, e_varS, e_comp, i_range1, i_range2, r2a_eq, i_val, vK_tup, vK_str, t_lit, t_cmp, t_cmp2, t_cmp3, t_call, t_bi, t_var, t_and, t_or, t_not, andT_t, andT_f, orT_t, orT_f, notT_eq, v_add, v_sub, c_lt, c_le, c_gt, c_ge, c_eqI, c_neI, c_eqS, c_neS, c_isN, c_isnotN, c_isB, c_isnotB, x_tup, x_lstV, sl_lstV, sl_tup, b_lenT, b_lenV, decide_true, decide_false, Bool.not_true, Bool.not_false, at0, at1, at2, at3, Nat.reduceAdd, Nat.reduceSub, Nat.reduceMul, Int.reduceAdd, Int.reduceSub, Int.reduceMul, Int.reduceNeg, Int.reduceLT, Int.reduceLE, Int.reduceToNat, Int.cast_ofNat_Int, get_at, get_at0, set_at, set_at0, v_addR, addO_ok, b_lenR, lenO_lst, x_ref, ixO_lst, sl_ref, slO_lst, set_ref, m_appR, appO_lst, b_allR, b_anyR, b_listT, vK_ref, vO_lst, me1_app, recO_lst, when_t, List.append_assoc, List.length_append, List.getElem?_cons_zero, List.getElem?_cons_succ, Nat.zero_add, lim_big, lim_lt, Nat.reduceLeDiff, Nat.reduceLT, c3, c1, m4, v_addT, me1_eq r_upper, mu, sl, s7, ad]
  refine nd_aux F W h9 hkl ha hb hc get_at ?_ (by simp) (Off.app _ _ _)
  intro x hx
  simp only [List.mem_cons, List.not_mem_nil, or_false] at hx
  have pk : ∀ h : CH, Part h (.str k) := fun h => part_str (by omega)
  have pa : ∀ h : CH, Part h (.str a) := fun h => part_str (by omega)
  have pb : ∀ h : CH, Part h (.str b) := fun h => part_str (by have := hb.2.1; omega)
  have pc : ∀ h : CH, Part h (.str c) := fun h => part_str (by have := hc.2.1; omega)
  have kk : ∀ x y : CV, deedV (.tup [.str k, x, x, y]) = false := fun x y => by simp only [deedV, ne_eq, not_true_eq_false, decide_false, Bool.and_false]
  have ko : ∀ x y z u : CV, kindV u = false → deedV (.tup [u, x, y, z]) = false := fun x y z u hu => by simp only [deedV, hu, Bool.and_false, Bool.false_and]
  rcases hx with rfl | rfl | rfl | rfl | rfl | rfl | rfl | rfl | rfl | rfl | rfl | rfl | rfl | rfl | rfl
  · exact ⟨td_tup (by simp), rfl⟩
  · exact ⟨td_tup (by simp), rfl⟩
  · exact ⟨⟨⟨.inl ⟨_, get_at0⟩, fun _ e => by cases e⟩, fun _ e => by cases e⟩, rfl⟩
  · exact ⟨td_tup (by simp), rfl⟩
  · exact ⟨td_tup (by simp), rfl⟩
  · exact ⟨td4 (pk _) (pa _) (pa _) (pc _), kk _ _⟩
  · exact ⟨td4 (pk _) (pk _) (pk _) (pk _), kk _ _⟩
  · refine ⟨td4 (part_str (by rw [List.length_map]; omega)) (pa _) (pb _) (pc _), ko _ _ _ _ ?_⟩
    rcases hk with rfl | rfl <;> decide
  · exact ⟨td4 (part_str (by decide)) (pa _) (pb _) (pc _), ko _ _ _ _ (by decide)⟩
  · exact ⟨td4 (part_str (by decide)) (pa _) (pb _) (pc _), ko _ _ _ _ (by decide)⟩
  · exact ⟨td4 ⟨trivial, fun _ e => by cases e⟩ (pa _) (pb _) (pc _), ko _ _ _ _ rfl⟩
  · exact ⟨td4 ⟨.inl ⟨_, get_at⟩, fun _ e => by cases e⟩ (pa _) (pb _) (pc _), ko _ _ _ _ rfl⟩
  · refine ⟨td4 (part_str (by rw [List.length_append]; simp only [List.length_cons, List.length_nil]; omega)) (pa _) (pb _) (pc _), ko _ _ _ _ ?_⟩
    have hne : ∀ t : List Nat, 120 ∉ t → a.take 7 ++ [120] ≠ t := fun t ht e => ht (by rw [← e]; simp)
    simp only [kindV, hne kSend (by decide), hne kTake (by decide), decide_false, Bool.or_false]
  · exact ⟨td4 ⟨trivial, fun _ e => by cases e⟩ (pa _) (pb _) (pc _), ko _ _ _ _ rfl⟩
  · exact ⟨td4 ⟨trivial, fun _ e => by cases e⟩ (pa _) (pb _) (pc _), ko _ _ _ _ rfl⟩
end TH

namespace TH
open PySem
/-! ### rows -/
def rowV : CV → Bool
  | .tup xs => xs.all deedV
  | _ => false
theorem run_isrow (F : Fns) (W : Nat) (hF : ∀ (h : CH) (v : CV), TD h v → ∃ h', F 2 [v] h = some (.bl (deedV v), h') ∧ Off [] h h') {h : CH} {v : CV} (t : Typ h v) (hp : ∀ xs, v = .tup xs → xs.length ≤ 1000 ∧ ∀ x ∈ xs, TD h x) :
    ∃ h', runC F W n12.length b12 [v] h = some (.bl (rowV v), h') ∧ Off [] h h' := by
  cases e : isTup v with
  | false =>
    have : rowV v = false := by cases v <;> first | rfl | cases e
    refine ⟨h, ?_, .refl _ _⟩
    simp only [b12, n12, run_eq, List.length_cons, List.length_nil, List.map_cons, List.map_nil, List.cons_append, List.nil_append, List.replicate, List.set_cons_zero, List.set_cons_succ, x_cons, x_nil, seqC_nx, seqC_rt, x_asg, asgK_nm, asgK_sub, retS_some, retH_some, sub1_eq, sub2_eq, x_expr, exK_eq, x_ret, retK_eq, x_retn, x_iff, iffK_t, iffK_f, x_fo, x_pas, x_par, runK_nx, runK_rt, bindE_some, bindL_some, bindO_some, bindI_some, bindB_some, liftB_some, retV_some, asB_bl, bin1_eq, e_bin, cmpK_eq, cmp1_eq, e_cmp, cmpR_t, cmpR_f, cmp2a_eq, e_cmp2, cmpR3_t, cmpR3_f, cmp3a_eq, e_cmp3, e_and, e_or, andK_t, andK_f, orK_t, orK_f, bOut_eq, notK_eq, e_not, negK_int, e_neg, iteK_t, iteK_f, e_ite, tupK2_eq, e_tup, lstK_eq, e_lst, e_dct0, ixK_eq, ix1_eq, e_ix, sl1_eq, sl2_eq, e_sl, e_rev, o_no, o_ex, oK_int, e_call, e_bi, e_me, s_nil, s_cons, consA_eq, consB_eq, e_lit, e_glob, e_var0, e_varS, e_comp, i_range1, i_range2, r2a_eq, i_val, vK_tup, vK_str, t_lit, t_cmp, t_cmp2, t_cmp3, t_call, t_bi, t_var, t_and, t_or, t_not, andT_t, andT_f, orT_t, orT_f, notT_eq, v_add, v_sub, c_lt, c_le, c_gt, c_ge, c_eqI, c_neI, c_eqS, c_neS, c_isN, c_isnotN, c_isB, c_isnotB, x_tup, x_lstV, sl_lstV, sl_tup, b_lenT, b_lenV, decide_true, decide_false, Bool.not_true, Bool.not_false, b_isi (i_tup t), e, this]
  | true =>
    obtain ⟨xs, rfl⟩ : ∃ xs, v = .tup xs := by cases v <;> first | exact ⟨_, rfl⟩ | cases e
    obtain ⟨hl, hx⟩ := hp xs rfl
    obtain ⟨h', ec, oc⟩ := comp_vals (F := F) (s := [some (.tup xs), none]) (h := h) (elt := .call 2 (.cons (.var 1) .nil)) (i := 1) (src := .tup xs) (S := []) (xs := xs) (fun x => .bl (deedV x)) (fun h' _ i => src_tup) src_tupL (lim_big (by omega))
      (fun x hx' h' o => by
        obtain ⟨h2, e2, o2⟩ := hF h' x ((hx x hx').off o)
        exact ⟨h2, by simp only [run_eq, List.length_cons, List.length_nil, List.map_cons, List.map_nil, List.cons_append, List.nil_append, List.replicate, List.set_cons_zero, List.set_cons_succ, x_cons, x_nil, seqC_nx, seqC_rt, x_asg, asgK_nm, asgK_sub, retS_some, retH_some, sub1_eq, sub2_eq, x_expr, exK_eq, x_ret, retK_eq, x_retn, x_iff, iffK_t, iffK_f, x_fo, x_pas, x_par, runK_nx, runK_rt, bindE_some, bindL_some, bindO_some, bindI_some, bindB_some, liftB_some, retV_some, asB_bl, bin1_eq, e_bin, cmpK_eq, cmp1_eq, e_cmp, cmpR_t, cmpR_f, cmp2a_eq, e_cmp2, cmpR3_t, cmpR3_f, cmp3a_eq, e_cmp3, e_and, e_or, andK_t, andK_f, orK_t, orK_f, bOut_eq, notK_eq, e_not, negK_int, e_neg, iteK_t, iteK_f, e_ite, tupK2_eq, e_tup, lstK_eq, e_lst, e_dct0, ixK_eq, ix1_eq, e_ix, sl1_eq, sl2_eq, e_sl, e_rev, o_no, o_ex, oK_int, e_call, e_bi, e_me, s_nil, s_cons, consA_eq, consB_eq, e_lit, e_glob, e_var0, e_varS, e_comp, i_range1, i_range2, r2a_eq, i_val, vK_tup, vK_str, t_lit, t_cmp, t_cmp2, t_cmp3, t_call, t_bi, t_var, t_and, t_or, t_not, andT_t, andT_f, orT_t, orT_f, notT_eq, v_add, v_sub, c_lt, c_le, c_gt, c_ge, c_eqI, c_neI, c_eqS, c_neS, c_isN, c_isnotN, c_isB, c_isnotB, x_tup, x_lstV, sl_lstV, sl_tup, b_lenT, b_lenV, decide_true, decide_false, Bool.not_true, Bool.not_false, e2], o2⟩)
    have ey : xs.map (fun x => CV.bl (deedV x)) = (xs.map deedV).map CV.bl := by rw [List.map_map]; rfl
    rw [ey] at ec
    have ea := b_all (get_new (h := h') (o := CO.lst ((xs.map deedV).map CV.bl)))
    have en : rowV (.tup xs) = (xs.map deedV).all id := by
      show xs.all deedV = _
      rw [List.all_map]
      rfl
    refine ⟨h' ++ [CO.lst ((xs.map deedV).map CV.bl)], ?_, oc.trans (Off.app _ _ _)⟩
    rw [en]
    simp only [b12, n12, run_eq, List.length_cons, List.length_nil, List.map_cons, List.map_nil, List.cons_append, List.nil_append, List.replicate, List.set_cons_zero, List.set_cons_succ, x_cons, x_nil, seqC_nx, seqC_rt, x_asg, asgK_nm, asgK_sub, retS_some, retH_some, sub1_eq, sub2_eq, x_expr, exK_eq, x_ret, retK_eq, x_retn, x_iff, iffK_t, iffK_f, x_fo, x_pas, x_par, runK_nx, runK_rt, bindE_some, bindL_some, bindO_some, bindI_some, bindB_some, liftB_some, retV_some, asB_bl, bin1_eq, e_bin, cmpK_eq, cmp1_eq, e_cmp, cmpR_t, cmpR_f, cmp2a_eq, e_cmp2, cmpR3_t, cmpR3_f, cmp3a_eq, e_cmp3, e_and, e_or, andK_t, andK_f, orK_t, orK_f, bOut_eq, notK_eq, e_not, negK_int, e_neg, iteK_t, iteK_f, e_ite, tupK2_eq, e_tup, lstK_eq, e_lst, e_dct0, ixK_eq, ix1_eq, e_ix, sl1_eq, sl2_eq, e_sl, e_rev, o_no, o_ex, oK_int, e_call, e_bi, e_me, s_nil, s_cons, consA_eq, consB_eq, e_lit, e_glob, e_var0, e_varS, e_comp, i_range1, i_range2, r2a_eq, i_val, vK_tup, vK_str, t_lit, t_cmp, t_cmp2, t_cmp3, t_call, t_bi, t_var, t_and, t_or, t_not, andT_t, andT_f, orT_t, orT_f, notT_eq, v_add, v_sub, c_lt, c_le, c_gt, c_ge, c_eqI, c_neI, c_eqS, c_neS, c_isN, c_isnotN, c_isB, c_isnotB, x_tup, x_lstV, sl_lstV, sl_tup, b_lenT, b_lenV, decide_true, decide_false, Bool.not_true, Bool.not_false, b_isi (i_tup t), isTup, ec, ea]
theorem run_is (F : Fns) (W : Nat) {h : CH} {a b : Bool} : runC F W n14.length b14 [.bl a, .bl b] h = some (.bl (a == b), h) := by
  have t : Typ h (.bl a) := trivial
  simp only [b14, n14, run_eq, List.length_cons, List.length_nil, List.map_cons, List.map_nil, List.cons_append, List.nil_append, List.replicate, List.set_cons_zero, List.set_cons_succ, x_cons, x_nil, seqC_nx, seqC_rt, x_asg, asgK_nm, asgK_sub, retS_some, retH_some, sub1_eq, sub2_eq, x_expr, exK_eq, x_ret, retK_eq, x_retn, x_iff, iffK_t, iffK_f, x_fo, x_pas, x_par, runK_nx, runK_rt, bindE_some, bindL_some, bindO_some, bindI_some, bindB_some, liftB_some, retV_some, asB_bl, bin1_eq, e_bin, cmpK_eq, cmp1_eq, e_cmp, cmpR_t, cmpR_f, cmp2a_eq, e_cmp2, cmpR3_t, cmpR3_f, cmp3a_eq, e_cmp3, e_and, e_or, andK_t, andK_f, orK_t, orK_f, bOut_eq, notK_eq, e_not, negK_int, e_neg, iteK_t, iteK_f, e_ite, tupK2_eq, e_tup, lstK_eq, e_lst, e_dct0, ixK_eq, ix1_eq, e_ix, sl1_eq, sl2_eq, e_sl, e_rev, o_no, o_ex, oK_int, e_call, e_bi, e_me, s_nil, s_cons, consA_eq, consB_eq, e_lit, e_glob, e_var0, e_varS, e_comp, i_range1, i_range2, r2a_eq, i_val, vK_tup, vK_str, t_lit, t_cmp, t_cmp2, t_cmp3, t_call, t_bi, t_var, t_and, t_or, t_not, andT_t, andT_f, orT_t, orT_f, notT_eq, v_add, v_sub, c_lt, c_le, c_gt, c_ge, c_eqI, c_neI, c_eqS, c_neS, c_isN, c_isnotN, c_isB, c_isnotB, x_tup, x_lstV, sl_lstV, sl_tup, b_lenT, b_lenV, decide_true, decide_false, Bool.not_true, Bool.not_false, at0, at1, at2, at3, Nat.reduceAdd, Nat.reduceSub, Nat.reduceMul, Int.reduceAdd, Int.reduceSub, Int.reduceMul, Int.reduceNeg, Int.reduceLT, Int.reduceLE, Int.reduceToNat, Int.cast_ofNat_Int, b_isi (i_bool t), isBl, c_eq (eqV_bl h a b)]
/-! ### rows of any deeds -/
def Draws (F : Fns) : Prop := ∀ (h : CH) (p : Nat) (t : Int), Pool h p → 0 < t → t < 1073741824 → ∃ n h', F 5 [.ref p, .int t] h = some (.int n, h') ∧ 0 ≤ n ∧ n < t ∧ Off [p] h h' ∧ Pool h' p
theorem draw_at {F : Fns} (hD : Draws F) {h : CH} {p : Nat} {ks : List (List Nat)} (q : Pool h p) (h0 : 0 < ks.length) (h1 : ks.length < 1000) : ∃ (n : Int) (h' : CH) (k : List Nat), F 5 [.ref p, .int (ks.length : Int)] h = some (.int n, h') ∧ atI (ks.map CV.str) n = some (.str k) ∧ k ∈ ks ∧ Off [p] h h' ∧ Pool h' p := by
  obtain ⟨n, h', e, n0, n1, o, q'⟩ := hD h p ks.length q (by omega) (by omega)
  have hn : n.toNat < ks.length := by omega
  refine ⟨n, h', ks[n.toNat], e, ?_, List.getElem_mem hn, o, q'⟩
  rw [atI_int _ n0, List.getElem?_map, List.getElem?_eq_getElem hn]
  rfl
/-- a deed of names -/
def DeedOf (x : CV) : Prop := ∃ k a b c, x = .tup [.str k, .str a, .str b, .str c] ∧ (k = kSend ∨ k = kTake) ∧ Nm a ∧ Nm b ∧ Nm c ∧ a ≠ b
def DeedIn (N : List (List Nat)) (x : CV) : Prop := ∃ k a b c, x = .tup [.str k, .str a, .str b, .str c] ∧ (k = kSend ∨ k = kTake) ∧ Nm a ∧ Nm b ∧ Nm c ∧ a ≠ b ∧ a ∈ N ∧ b ∈ N ∧ c ∈ N
theorem DeedIn.of {N : List (List Nat)} {x : CV} : DeedIn N x → DeedOf x := fun ⟨k, a, b, c, e, h1, h2, h3, h4, h5, _⟩ => ⟨k, a, b, c, e, h1, h2, h3, h4, h5⟩
theorem DeedOf.good {x : CV} (d : DeedOf x) : deedV x = true := by
  obtain ⟨k, a, b, c, rfl, hk, ha, hb, hc, hab⟩ := d
  have e1 := (nmB_iff a).mpr ha
  have e2 := (nmB_iff b).mpr hb
  have e3 := (nmB_iff c).mpr hc
  have e4 : kindV (.str k) = true := by rcases hk with rfl | rfl <;> decide
  have e5 : decide (CV.str a ≠ CV.str b) = true := decide_eq_true fun e => hab (by cases e; rfl)
  simp only [deedV, nmV, e1, e2, e3, e4, e5, Bool.and_self]
theorem DeedOf.td {x : CV} (d : DeedOf x) {h : CH} : TD h x := by
  obtain ⟨k, a, b, c, rfl, hk, ha, hb, hc, hab⟩ := d
  have hkl : k.length ≤ 8 := by rcases hk with rfl | rfl <;> decide
  exact td4 (part_str (by omega)) (part_str (by have := ha.2.1; omega)) (part_str (by have := hb.2.1; omega)) (part_str (by have := hc.2.1; omega))
def turn13 : CSs := (.cons (.asg (.nm 6) (.ix (.var 1) (.call 5 (.cons (.var 0) (.cons (.bi .len (.cons (.var 1) .nil)) .nil))))) (.cons (.asg (.nm 7) (.comp (.var 10) 10 (.val (.var 1)) (.cmp .ne (.var 10) (.var 6)))) (.cons (.asg (.nm 8) (.ix (.var 7) (.call 5 (.cons (.var 0) (.cons (.bi .len (.cons (.var 7) .nil)) .nil))))) (.cons (.asg (.nm 9) (.tup (.cons (.lit (.str [115, 101, 110, 100])) (.cons (.var 6) (.cons (.var 8) (.cons (.ix (.var 2) (.call 5 (.cons (.var 0) (.cons (.bi .len (.cons (.var 2) .nil)) .nil)))) .nil)))))) (.cons (.iff (.cmp .eq (.call 5 (.cons (.var 0) (.cons (.lit (.int 3)) .nil))) (.lit (.int 1))) (.cons (.asg (.nm 9) (.bin .add (.tup (.cons (.lit (.str [116, 97, 107, 101])) .nil)) (.sl (.var 9) (.ex (.lit (.int 1))) .no))) .nil) .nil) (.cons (.expr (.me .append (.var 4) (.cons (.var 9) .nil))) (.cons (.iff (.and (.cmp .eq (.ix (.var 9) (.lit (.int 0))) (.lit (.str [115, 101, 110, 100]))) (.cmp .eq (.call 5 (.cons (.var 0) (.cons (.lit (.int 2)) .nil))) (.lit (.int 1)))) (.cons (.expr (.me .append (.var 4) (.cons (.bin .add (.tup (.cons (.lit (.str [116, 97, 107, 101])) .nil)) (.sl (.var 9) (.ex (.lit (.int 1))) .no)) .nil))) .nil) .nil) .nil)))))))
theorem run_turn (F : Fns) (W : Nat) (hD : Draws F) {h : CH} {p r w q : Nat} {x3 x5 x6 x7 x8 x9 : Option CV} {ks ws : List (List Nat)} {xs : List CV} (hp : Pool h p) (gr : h[r]? = some (.lst (ks.map .str))) (gw : h[w]? = some (.lst (ws.map .str))) (gq : h[q]? = some (.lst xs))
    (hrp : r ≠ p) (hwp : w ≠ p) (hqp : q ≠ p) (hqr : q ≠ r) (hqw : q ≠ w) (nd : ks.Nodup) (hk : ∀ k ∈ ks, Nm k) (hw : ∀ k ∈ ws, Nm k) (l1 : 2 ≤ ks.length) (l2 : ks.length < 26) (l3 : 0 < ws.length) (l4 : ws.length < 26) (lx : xs.length ≤ 1000) :
    ∃ x5' x6' x7' x8' x9' ys h', execCs F W turn13 [some (.ref p), some (.ref r), some (.ref w), x3, some (.ref q), x5, x6, x7, x8, x9, none] h = some (.nx, [some (.ref p), some (.ref r), some (.ref w), x3, some (.ref q), x5', x6', x7', x8', x9', none], h') ∧
      h'[q]? = some (.lst (xs ++ ys)) ∧ (∀ x ∈ ys, DeedIn (ks ++ ws) x) ∧ ys.length ≤ 2 ∧ Off [p, q] h h' ∧ Pool h' p := by
  obtain ⟨n1, h1, one, e1, a1, m1, o1, p1⟩ := draw_at hD hp (by omega) (by omega) (ks := ks)
  have gr1 := o1.get gr (by simpa using hrp)
  have ec := comp_map (F := F) (s := [some (.ref p), some (.ref r), some (.ref w), x3, some (.ref q), x5, some (.str one), x7, x8, x9, none]) (h := h1) (elt := .var 10) (cond := .cmp .ne (.var 10) (.var 6)) (i := 10) (src := .cell r) (xs := ks.map CV.str)
    (fun x => match x with | .str t => !decide (t = one) | _ => false) (fun x => x) (fun i => src_cell gr1) (src_cellL gr1) (by rw [List.length_map]; exact lim_big (by omega)) (fun x hx => by
      obtain ⟨t, ht, rfl⟩ := List.mem_map.mp hx
      simp only [run_eq, List.length_cons, List.length_nil, List.map_cons, List.map_nil, List.cons_append, List.nil_append, List.replicate, List.set_cons_zero, List.set_cons_succ, x_cons, x_nil, seqC_nx, seqC_rt, x_asg, asgK_nm, asgK_sub, retS_some, retH_some, sub1_eq, sub2_eq, x_expr, exK_eq, x_ret, retK_eq, x_retn, x_iff, iffK_t, iffK_f, x_fo, x_pas, x_par, runK_nx, runK_rt, bindE_some, bindL_some, bindO_some, bindI_some, bindB_some, liftB_some, retV_some, asB_bl, bin1_eq, e_bin, cmpK_eq, cmp1_eq, e_cmp, cmpR_t, cmpR_f, cmp2a_eq, e_cmp2, cmpR3_t, cmpR3_f, cmp3a_eq, e_cmp3, e_and, e_or, andK_t, andK_f, orK_t, orK_f, bOut_eq, notK_eq, e_not, negK_int, e_neg, iteK_t, iteK_f, e_ite, tupK2_eq, e_tup, lstK_eq, e_lst, e_dct0, ixK_eq, ix1_eq, e_ix, sl1_eq, sl2_eq, e_sl, e_rev, o_no, o_ex, oK_int, e_call, e_bi, e_me, s_nil, s_cons, consA_eq, consB_eq, e_lit, e_glob, e_var0, e_varS, e_comp, i_range1, i_range2, r2a_eq, i_val, vK_tup, vK_str, t_lit, t_cmp, t_cmp2, t_cmp3, t_call, t_bi, t_var, t_and, t_or, t_not, andT_t, andT_f, orT_t, orT_f, notT_eq, v_add, v_sub, c_lt, c_le, c_gt, c_ge, c_eqI, c_neI, c_eqS, c_neS, c_isN, c_isnotN, c_isB, c_isnotB, x_tup, x_lstV, sl_lstV, sl_tup, b_lenT, b_lenV, decide_true, decide_false, Bool.not_true, Bool.not_false]) (fun x hx _ => by simp only [run_eq, List.length_cons, List.length_nil, List.map_cons, List.map_nil, List.cons_append, List.nil_append, List.replicate, List.set_cons_zero, List.set_cons_succ, x_cons, x_nil, seqC_nx, seqC_rt, x_asg, asgK_nm, asgK_sub, retS_some, retH_some, sub1_eq, sub2_eq, x_expr, exK_eq, x_ret, retK_eq, x_retn, x_iff, iffK_t, iffK_f, x_fo, x_pas, x_par, runK_nx, runK_rt, bindE_some, bindL_some, bindO_some, bindI_some, bindB_some, liftB_some, retV_some, asB_bl, bin1_eq, e_bin, cmpK_eq, cmp1_eq, e_cmp, cmpR_t, cmpR_f, cmp2a_eq, e_cmp2, cmpR3_t, cmpR3_f, cmp3a_eq, e_cmp3, e_and, e_or, andK_t, andK_f, orK_t, orK_f, bOut_eq, notK_eq, e_not, negK_int, e_neg, iteK_t, iteK_f, e_ite, tupK2_eq, e_tup, lstK_eq, e_lst, e_dct0, ixK_eq, ix1_eq, e_ix, sl1_eq, sl2_eq, e_sl, e_rev, o_no, o_ex, oK_int, e_call, e_bi, e_me, s_nil, s_cons, consA_eq, consB_eq, e_lit, e_glob, e_var0, e_varS, e_comp, i_range1, i_range2, r2a_eq, i_val, vK_tup, vK_str, t_lit, t_cmp, t_cmp2, t_cmp3, t_call, t_bi, t_var, t_and, t_or, t_not, andT_t, andT_f, orT_t, orT_f, notT_eq, v_add, v_sub, c_lt, c_le, c_gt, c_ge, c_eqI, c_neI, c_eqS, c_neS, c_isN, c_isnotN, c_isB, c_isnotB, x_tup, x_lstV, sl_lstV, sl_tup, b_lenT, b_lenV, decide_true, decide_false, Bool.not_true, Bool.not_false])
  rw [List.map_id'] at ec
  have efil : (ks.map CV.str).filter (fun x => match x with | .str t => !decide (t = one) | _ => false) = (ks.filter fun t => !decide (t = one)).map CV.str := by
    rw [List.filter_map]
    rfl
  rw [efil] at ec
  generalize hos : ks.filter (fun t => !decide (t = one)) = os at ec
  have hos1 : ∀ k ∈ os, k ∈ ks ∧ k ≠ one := fun k hk' => by
    rw [← hos] at hk'
    obtain ⟨u1, u2⟩ := List.mem_filter.mp hk'
    exact ⟨u1, by simpa using u2⟩
  have hos2 : os.length ≤ ks.length := by rw [← hos]; exact List.length_filter_le _ _
  have hos3 : 0 < os.length := by
    rw [← hos]
    match ks, l1, nd with
    | a :: b :: l, _, nd =>
      have hab : a ≠ b := fun e => by subst e; simp at nd
      refine List.length_pos_iff_exists_mem.mpr ?_
      by_cases ha : a = one
      · exact ⟨b, List.mem_filter.mpr ⟨by simp, by simpa using fun e : b = one => hab (ha.trans e.symm)⟩⟩
      · exact ⟨a, List.mem_filter.mpr ⟨by simp, by simpa using ha⟩⟩
  obtain ⟨n2, h2, oth, e2, a2, m2, o2, p2⟩ := draw_at hD (p1.keep (Off.app [] h1 [CO.lst (os.map CV.str)]) (by simp)) hos3 (by omega)
  have gw2 := o2.get (get_app (t := [CO.lst (os.map CV.str)]) (o1.get gw (by simpa using hwp))) (by simpa using hwp)
  have hpl := hp.lt
  have gos2 := o2.get (get_new (h := h1) (o := CO.lst (os.map CV.str))) (by have := p1.lt; simp; omega)
  obtain ⟨n3, h3, wd, e3, a3, m3, o3, p3⟩ := draw_at hD p2 l3 (by omega) (ks := ws)
  have gw3 := o3.get gw2 (by simpa using hwp)
  obtain ⟨n4, h4, e4, n40, n41, o4, p4⟩ := hD h3 p 3 p3 (by decide) (by decide)
  have gq4 := o4.get (o3.get (o2.get (get_app (t := [CO.lst (os.map CV.str)]) (o1.get gq (by simpa using hqp))) (by simpa using hqp)) (by simpa using hqp)) (by simpa using hqp)
  have o04 : Off [p, q] h h4 := ((((o1.trans (Off.app _ _ _)).trans o2).trans o3).trans o4).mono (by simp)
  have hone := hk _ m1
  have hoth := hk _ (hos1 _ m2).1
  have hne : one ≠ oth := fun e => (hos1 _ m2).2 e.symm
  have hwd := hw _ m3
  have mm : one ∈ ks ++ ws ∧ oth ∈ ks ++ ws ∧ wd ∈ ks ++ ws := ⟨List.mem_append_left _ m1, List.mem_append_left _ (hos1 _ m2).1, List.mem_append_right _ m3⟩
  have dS : DeedIn (ks ++ ws) (.tup [.str kSend, .str one, .str oth, .str wd]) := ⟨_, _, _, _, rfl, .inl rfl, hone, hoth, hwd, hne, mm⟩
  have dT : DeedIn (ks ++ ws) (.tup [.str kTake, .str one, .str oth, .str wd]) := ⟨_, _, _, _, rfl, .inr rfl, hone, hoth, hwd, hne, mm⟩
  have c1 : cut [CV.str [115, 101, 110, 100], .str one, .str oth, .str wd] (some 1) none = [.str one, .str oth, .str wd] := cut_from [CV.str [115, 101, 110, 100], .str one, .str oth, .str wd] 1
  have z1 : decide (([116, 97, 107, 101] : List Nat) = [115, 101, 110, 100]) = false := by decide
  have z2 : decide (([115, 101, 110, 100] : List Nat) = [115, 101, 110, 100]) = true := by decide
  have lt4 := lt_of gq4
  have apT := appO_lst (h := h4) (r := q) (v := .tup [.str kTake, .str one, .str oth, .str wd]) (xs := xs) (lim_lt (by omega))
  have apS := appO_lst (h := h4) (r := q) (v := .tup [.str kSend, .str one, .str oth, .str wd]) (xs := xs) (lim_lt (by omega))
  by_cases hn4 : n4 = 1
  · refine ⟨x5, some (.str one), some (.ref h1.length), some (.str oth), some (.tup [.str kTake, .str one, .str oth, .str wd]), [.tup [.str kTake, .str one, .str oth, .str wd]], h4.set q (.lst (xs ++ [.tup [.str kTake, .str one, .str oth, .str wd]])), ?_, List.getElem?_set_self lt4, by simpa using dT, by simp, o04.trans (Off.set (by simp)), p4.setNew hqp⟩
    unfold kTake at apT ⊢
    simp only [turn13, run_eq, List.length_cons, List.length_nil, List.map_cons, List.map_nil, List.cons_append, List.nil_append, List.replicate, List.set_cons_zero, List.set_cons_succ, x_cons, x_nil, seqC_nx, seqC_rt, x_asg, asgK_nm, asgK_sub, retS_some, retH_some, sub1_eq, sub2_eq, x_expr, exK_eq, x_ret, retK_eq, x_retn, x_iff, iffK_t, iffK_f, x_fo, x_pas, x_par, runK_nx, runK_rt, bindE_some, bindL_some, bindO_some, bindI_some, bindB_some, liftB_some, retV_some, asB_bl, bin1_eq, e_bin, cmpK_eq, cmp1_eq, e_cmp, cmpR_t, cmpR_f, cmp2a_eq, e_cmp2, cmpR3_t, cmpR3_f, cmp3a_eq, e_cmp3, e_and, e_or, andK_t, andK_f, orK_t, orK_f, bOut_eq, notK_eq, e_not, negK_int, e_neg, iteK_t, iteK_f, e_ite, tupK2_eq, e_tup, lstK_eq, e_lst, e_dct0, ixK_eq, ix1_eq, e_ix, sl1_eq, sl2_eq, e_sl, e_rev, o_no, o_ex, oK_int, e_call, e_bi, e_me, s_nil, s_cons, consA_eq, consB_eq, e_lit, e_glob, e_var0, e_varS, e_comp, i_range1, i_range2, r2a_eq, i_val, vK_tup, vK_str, t_lit, t_cmp, t_cmp2, t_cmp3, t_call, t_bi, t_var, t_and, t_or, t_not, andT_t, andT_f, orT_t, orT_f, notT_eq, v_add, v_sub, c_lt, c_le, c_gt, c_ge, c_eqI, c_neI, c_eqS, c_neS, c_isN, c_isnotN, c_isB, c_isnotB, x_tup, x_lstV, sl_lstV, sl_tup, b_lenT, b_lenV, decide_true, decide_false, Bool.not_true, Bool.not_false, at0, at1, at2, at3, Nat.reduceAdd, Nat.reduceSub, Nat.reduceMul, Int.reduceAdd, Int.reduceSub, Int.reduceMul, Int.reduceNeg, Int.reduceLT, Int.reduceLE, Int.reduceToNat, Int.cast_ofNat_Int, get_at, get_at0, set_at, set_at0, v_addR, addO_ok, b_lenR, lenO_lst, x_ref, ixO_lst, sl_ref, slO_lst, set_ref, m_appR, appO_lst, b_allR, b_anyR, b_listT, vK_ref, vO_lst, me1_app, recO_lst, when_t, List.append_assoc, List.length_append, List.getElem?_cons_zero, List.getElem?_cons_succ, Nat.zero_add, lim_big, lim_lt, Nat.reduceLeDiff, Nat.reduceLT, b_lenL gr, List.length_map, e1, x_lst gr1, a1, vK_lst gr1, ec, e2, a2, gos2, gw2, gw3, e3, a3, e4, hn4, c1, v_addT, me1_eq (r_append gq4), gq4, apT, z1]
  · obtain ⟨n5, h5, e5, n50, n51, o5, p5⟩ := hD (h4.set q (.lst (xs ++ [.tup [.str kSend, .str one, .str oth, .str wd]]))) p 2 (p4.setNew hqp) (by decide) (by decide)
    have gq5 := o5.get (List.getElem?_set_self (a := CO.lst (xs ++ [.tup [.str kSend, .str one, .str oth, .str wd]])) lt4) (by simpa using hqp)
    have o05 : Off [p, q] h h5 := (o04.trans (Off.set (by simp))).trans (o5.mono (by simp))
    by_cases hn5 : n5 = 1
    · have apT2 := appO_lst (h := h5) (r := q) (v := .tup [.str kTake, .str one, .str oth, .str wd]) (xs := xs ++ [.tup [.str kSend, .str one, .str oth, .str wd]]) (lim_lt (by simp; omega))
      refine ⟨x5, some (.str one), some (.ref h1.length), some (.str oth), some (.tup [.str kSend, .str one, .str oth, .str wd]), [.tup [.str kSend, .str one, .str oth, .str wd], .tup [.str kTake, .str one, .str oth, .str wd]], h5.set q (.lst ((xs ++ [.tup [.str kSend, .str one, .str oth, .str wd]]) ++ [.tup [.str kTake, .str one, .str oth, .str wd]])), ?_, by rw [List.getElem?_set_self (lt_of gq5), List.append_assoc]; rfl, fun x hx => ?_, by simp, o05.trans (Off.set (by simp)), p5.setNew hqp⟩
      · unfold kTake kSend at apT2
        unfold kSend at apS e5 gq5
        unfold kSend kTake
        simp only [turn13, run_eq, List.length_cons, List.length_nil, List.map_cons, List.map_nil, List.cons_append, List.nil_append, List.replicate, List.set_cons_zero, List.set_cons_succ, x_cons, x_nil, seqC_nx, seqC_rt, x_asg, asgK_nm, asgK_sub, retS_some, retH_some, sub1_eq, sub2_eq, x_expr, exK_eq, x_ret, retK_eq, x_retn, x_iff, iffK_t, iffK_f, x_fo, x_pas, x_par, runK_nx, runK_rt, bindE_some, bindL_some, bindO_some, bindI_some, bindB_some, liftB_some, retV_some, asB_bl, bin1_eq, e_bin, cmpK_eq, cmp1_eq, e_cmp, cmpR_t, cmpR_f, cmp2a_eq, e_cmp2, cmpR3_t, cmpR3_f, cmp3a_eq, e_cmp3, e_and, e_or, andK_t, andK_f, orK_t, orK_f, bOut_eq, notK_eq, e_not, negK_int, e_neg, iteK_t, iteK_f, e_ite, tupK2_eq, e_tup, lstK_eq, e_lst, e_dct0, ixK_eq, ix1_eq, e_ix, sl1_eq, sl2_eq, e_sl, e_rev, o_no, o_ex, oK_int, e_call, e_bi, e_me, s_nil, s_cons, consA_eq, consB_eq, e_lit, e_glob, e_var0, e_varS, e_comp, i_range1, i_range2, r2a_eq, i_val, vK_tup, vK_str, t_lit, t_cmp, t_cmp2, t_cmp3, t_call, t_bi, t_var, t_and, t_or, t_not, andT_t, andT_f, orT_t, orT_f, notT_eq, v_add, v_sub, c_lt, c_le, c_gt, c_ge, c_eqI, c_neI, c_eqS, c_neS, c_isN, c_isnotN, c_isB, c_isnotB, x_tup, x_lstV, sl_lstV, sl_tup, b_lenT, b_lenV, decide_true, decide_false, Bool.not_true, Bool.not_false, at0, at1, at2, at3, Nat.reduceAdd, Nat.reduceSub, Nat.reduceMul, Int.reduceAdd, Int.reduceSub, Int.reduceMul, Int.reduceNeg, Int.reduceLT, Int.reduceLE, Int.reduceToNat, Int.cast_ofNat_Int, get_at, get_at0, set_at, set_at0, v_addR, addO_ok, b_lenR, lenO_lst, x_ref, ixO_lst, sl_ref, slO_lst, set_ref, m_appR, appO_lst, b_allR, b_anyR, b_listT, vK_ref, vO_lst, me1_app, recO_lst, when_t, List.append_assoc, List.length_append, List.getElem?_cons_zero, List.getElem?_cons_succ, Nat.zero_add, lim_big, lim_lt, Nat.reduceLeDiff, Nat.reduceLT, b_lenL gr, List.length_map, e1, x_lst gr1, a1, vK_lst gr1, ec, e2, a2, gos2, gw2, gw3, e3, a3, e4, hn4, c1, v_addT, me1_eq (r_append gq4), gq4, apS, z2, e5, hn5, me1_eq (r_append gq5), gq5] at apT2 ⊢
        simp only [run_eq, List.length_cons, List.length_nil, List.map_cons, List.map_nil, List.cons_append, List.nil_append, List.replicate, List.set_cons_zero, List.set_cons_succ, x_cons, x_nil, seqC_nx, seqC_rt, x_asg, asgK_nm, asgK_sub, retS_some, retH_some, sub1_eq, sub2_eq, x_expr, exK_eq, x_ret, retK_eq, x_retn, x_iff, iffK_t, iffK_f, x_fo, x_pas, x_par, runK_nx, runK_rt, bindE_some, bindL_some, bindO_some, bindI_some, bindB_some, liftB_some, retV_some, asB_bl, bin1_eq, e_bin, cmpK_eq, cmp1_eq, e_cmp, cmpR_t, cmpR_f, cmp2a_eq, e_cmp2, cmpR3_t, cmpR3_f, cmp3a_eq, e_cmp3, e_and, e_or, andK_t, andK_f, orK_t, orK_f, bOut_eq, notK_eq, e_not, negK_int, e_neg, iteK_t, iteK_f, e_ite, tupK2_eq, e_tup, lstK_eq, e_lst, e_dct0, ixK_eq, ix1_eq, e_ix, sl1_eq, sl2_eq, e_sl, e_rev, o_no, o_ex, oK_int, e_call, e_bi, e_me, s_nil, s_cons, consA_eq, consB_eq, e_lit, e_glob, e_var0, e_varS, e_comp, i_range1, i_range2, r2a_eq, i_val, vK_tup, vK_str, t_lit, t_cmp, t_cmp2, t_cmp3, t_call, t_bi, t_var, t_and, t_or, t_not, andT_t, andT_f, orT_t, orT_f, notT_eq, v_add, v_sub, c_lt, c_le, c_gt, c_ge, c_eqI, c_neI, c_eqS, c_neS, c_isN, c_isnotN, c_isB, c_isnotB, x_tup, x_lstV, sl_lstV, sl_tup, b_lenT, b_lenV, decide_true, decide_false, Bool.not_true, Bool.not_false, apT2]
      · simp only [List.mem_cons, List.not_mem_nil, or_false] at hx
        rcases hx with rfl | rfl
        · exact dS
        · exact dT
    · refine ⟨x5, some (.str one), some (.ref h1.length), some (.str oth), some (.tup [.str kSend, .str one, .str oth, .str wd]), [.tup [.str kSend, .str one, .str oth, .str wd]], h5, ?_, gq5, by simpa using dS, by simp, o05, p5⟩
      unfold kSend at apS e5 ⊢
      simp only [turn13, run_eq, List.length_cons, List.length_nil, List.map_cons, List.map_nil, List.cons_append, List.nil_append, List.replicate, List.set_cons_zero, List.set_cons_succ, x_cons, x_nil, seqC_nx, seqC_rt, x_asg, asgK_nm, asgK_sub, retS_some, retH_some, sub1_eq, sub2_eq, x_expr, exK_eq, x_ret, retK_eq, x_retn, x_iff, iffK_t, iffK_f, x_fo, x_pas, x_par, runK_nx, runK_rt, bindE_some, bindL_some, bindO_some, bindI_some, bindB_some, liftB_some, retV_some, asB_bl, bin1_eq, e_bin, cmpK_eq, cmp1_eq, e_cmp, cmpR_t, cmpR_f, cmp2a_eq, e_cmp2, cmpR3_t, cmpR3_f, cmp3a_eq, e_cmp3, e_and, e_or, andK_t, andK_f, orK_t, orK_f, bOut_eq, notK_eq, e_not, negK_int, e_neg, iteK_t, iteK_f, e_ite, tupK2_eq, e_tup, lstK_eq, e_lst, e_dct0, ixK_eq, ix1_eq, e_ix, sl1_eq, sl2_eq, e_sl, e_rev, o_no, o_ex, oK_int, e_call, e_bi, e_me, s_nil, s_cons, consA_eq, consB_eq, e_lit, e_glob, e_var0, e_varS, e_comp, i_range1, i_range2, r2a_eq, i_val, vK_tup, vK_str, t_lit, t_cmp, t_cmp2, t_cmp3, t_call, t_bi, t_var, t_and, t_or, t_not, andT_t, andT_f, orT_t, orT_f, notT_eq, v_add, v_sub, c_lt, c_le, c_gt, c_ge, c_eqI, c_neI, c_eqS, c_neS, c_isN, c_isnotN, c_isB, c_isnotB, x_tup, x_lstV, sl_lstV, sl_tup, b_lenT, b_lenV, decide_true, decide_false, Bool.not_true, Bool.not_false, at0, at1, at2, at3, Nat.reduceAdd, Nat.reduceSub, Nat.reduceMul, Int.reduceAdd, Int.reduceSub, Int.reduceMul, Int.reduceNeg, Int.reduceLT, Int.reduceLE, Int.reduceToNat, Int.cast_ofNat_Int, get_at, get_at0, set_at, set_at0, v_addR, addO_ok, b_lenR, lenO_lst, x_ref, ixO_lst, sl_ref, slO_lst, set_ref, m_appR, appO_lst, b_allR, b_anyR, b_listT, vK_ref, vO_lst, me1_app, recO_lst, when_t, List.append_assoc, List.length_append, List.getElem?_cons_zero, List.getElem?_cons_succ, Nat.zero_add, lim_big, lim_lt, Nat.reduceLeDiff, Nat.reduceLT, b_lenL gr, List.length_map, e1, x_lst gr1, a1, vK_lst gr1, ec, e2, a2, gos2, gw2, gw3, e3, a3, e4, hn4, c1, v_addT, me1_eq (r_append gq4), gq4, apS, z2, e5, hn5]
theorem b_tupL {r : Nat} {xs : List CV} {h : CH} (e : h[r]? = some (.lst xs)) : biV .tuple [.ref r] h = some (.tup xs, h) := by simp only [biV, items, rdl_of e, Option.map_some]
theorem run_anyrow (F : Fns) (W : Nat) (hD : Draws F) {h : CH} {p r w : Nat} {ks ws : List (List Nat)} (hp : Pool h p) (gr : h[r]? = some (.lst (ks.map .str))) (gw : h[w]? = some (.lst (ws.map .str)))
    (hrp : r ≠ p) (hwp : w ≠ p) (nd : ks.Nodup) (hk : ∀ k ∈ ks, Nm k) (hw : ∀ k ∈ ws, Nm k) (l1 : 2 ≤ ks.length) (l2 : ks.length < 26) (l3 : 0 < ws.length) (l4 : ws.length < 26) :
    ∃ xs h', runC F W n13.length b13 [.ref p, .ref r, .ref w, .int 20] h = some (.tup xs, h') ∧ (∀ x ∈ xs, DeedOf x) ∧ xs.length ≤ 20 ∧ Off [p] h h' ∧ Pool h' p := by
  have hpl := hp.lt
  have hrl := lt_of gr
  have hwl := lt_of gw
  obtain ⟨n, h1, e1, n0, n1, o1, p1⟩ := hD (h ++ [.lst []]) p 21 (hp.keep (Off.app [] _ _) (by simp)) (by decide) (by decide)
  have sm : small62 n = true := by unfold small62; simp only [Bool.and_eq_true, decide_eq_true_eq]; omega
  have oh : Off [p] h h1 := (Off.app _ _ _).trans o1
  have gq : h1[h.length]? = some (.lst []) := o1.get get_new (by simp; omega)
  obtain ⟨s', h', e, x5, x6, x7, x8, x9, xs, rfl, g, hx, hl, o, p'⟩ := foK_inv (F := F) (W := W) (s := [some (.ref p), some (.ref r), some (.ref w), some (.int 20), some (.ref h.length), none, none, none, none, none, none]) (h := h1) (t := .nm 5) (b := turn13) (src := .ints 0 n.toNat)
    (fun j s' h' => ∃ (x5 x6 x7 x8 x9 : Option CV) (xs : List CV), s' = [some (.ref p), some (.ref r), some (.ref w), some (.int 20), some (.ref h.length), x5, x6, x7, x8, x9, none] ∧ h'[h.length]? = some (.lst xs) ∧ (∀ x ∈ xs, DeedOf x) ∧ xs.length ≤ 2 * j ∧ Off [p, h.length] h1 h' ∧ Pool h' p)
    ⟨none, none, none, none, none, [], rfl, gq, (fun x hx => by cases hx), by simp, .refl _ _, p1⟩
    (fun j s' h' hj hi => by
      rw [src_intsL] at hj
      obtain ⟨x5, x6, x7, x8, x9, xs, rfl, g, hx, hl, o, p'⟩ := hi
      have gr' := o.get (oh.get gr (by simpa using hrp)) (by simp; exact ⟨hrp, by omega⟩)
      have gw' := o.get (oh.get gw (by simpa using hwp)) (by simp; exact ⟨hwp, by omega⟩)
      obtain ⟨y5, y6, y7, y8, y9, ys, h2, e2, g2, hy, hyl, o2, p2⟩ := run_turn F W hD (x3 := some (.int 20)) (x5 := some (.int (0 + (j : Int)))) (x6 := x6) (x7 := x7) (x8 := x8) (x9 := x9) p' gr' gw' g hrp hwp (by omega) (by omega) (by omega) nd hk hw l1 l2 l3 l4 (by omega)
      refine ⟨.int (0 + (j : Int)), _, h2, by rw [src_ints, if_pos hj], by rw [foB_nm]; exact e2, y5, y6, y7, y8, y9, xs ++ ys, rfl, g2, fun x hx' => ?_, by simp; omega, o.trans o2, p2⟩
      rcases List.mem_append.mp hx' with h | h
      · exact hx x h
      · exact (hy x h).of)
    (fun s' h' _ => by rw [src_intsL, src_ints, if_neg (by omega)])
  have ec : cut xs none (some 20) = xs.take 20 := cut_to xs 20
  refine ⟨xs.take 20, h' ++ [CO.lst (xs.take 20)], ?_, fun x hx' => hx x (List.mem_of_mem_take hx'), by simp; omega, ?_, p'.keep (Off.app [] _ _) (by simp)⟩
  · unfold turn13 at e
    simp only [b13, n13, run_eq, List.length_cons, List.length_nil, List.map_cons, List.map_nil, List.cons_append, List.nil_append, List.replicate, List.set_cons_zero, List.set_cons_succ, x_cons, x_nil, seqC_nx, seqC_rt, x_asg, asgK_nm, asgK_sub, retS_some, retH_some, sub1_eq, sub2_eq, x_expr, exK_eq, x_ret, retK_eq, x_retn, x_iff, iffK_t, iffK_f, x_fo, x_pas, x_par, runK_nx, runK_rt, bindE_some, bindL_some, bindO_some, bindI_some, bindB_some, liftB_some, retV_some, asB_bl, bin1_eq, e_bin, cmpK_eq, cmp1_eq, e_cmp, cmpR_t, cmpR_f, cmp2a_eq, e_cmp2, cmpR3_t, cmpR3_f, cmp3a_eq, e_cmp3, e_and, e_or, andK_t, andK_f, orK_t, orK_f, bOut_eq, notK_eq, e_not, negK_int, e_neg, iteK_t, iteK_f, e_ite, tupK2_eq, e_tup, lstK_eq, e_lst, e_dct0, ixK_eq, ix1_eq, e_ix, sl1_eq, sl2_eq, e_sl, e_rev, o_no, o_ex, oK_int, e_call, e_bi, e_me, s_nil, s_cons, consA_eq, consB_eq, e_lit, e_glob, e_var0, e_varS, e_comp, i_range1, i_range2, r2a_eq, i_val, vK_tup, vK_str, t_lit, t_cmp, t_cmp2, t_cmp3, t_call, t_bi, t_var, t_and, t_or, t_not, andT_t, andT_f, orT_t, orT_f, notT_eq, v_add, v_sub, c_lt, c_le, c_gt, c_ge, c_eqI, c_neI, c_eqS, c_neS, c_isN, c_isnotN, c_isB, c_isnotB, x_tup, x_lstV, sl_lstV, sl_tup, b_lenT, b_lenV, decide_true, decide_false, Bool.not_true, Bool.not_false, at0, at1, at2, at3, Nat.reduceAdd, Nat.reduceSub, Nat.reduceMul, Int.reduceAdd, Int.reduceSub, Int.reduceMul, Int.reduceNeg, Int.reduceLT, Int.reduceLE, Int.reduceToNat, Int.cast_ofNat_Int, e1, r1K_int sm, e, sl_lst g, ec, b_tupL get_new]
  · refine ⟨?_, fun i hi hs => ?_⟩
    · exact Nat.le_trans oh.len (Nat.le_trans o.len (by simp))
    · rw [List.getElem?_append_left (Nat.lt_of_lt_of_le hi (Nat.le_trans oh.len o.len)), o.at' i (Nat.lt_of_lt_of_le hi oh.len) (by simp at hs ⊢; exact ⟨hs, by omega⟩), oh.at' i hi hs]
/-- no row -/
def NR (h : CH) (v : CV) : Prop := (Typ h v ∧ ∀ xs, v = .tup xs → xs.length ≤ 1000 ∧ ∀ x ∈ xs, TD h x) ∧ rowV v = false
theorem NR.off {h h' : CH} {v : CV} (t : NR h v) (o : Off [] h h') : NR h' v := ⟨⟨t.1.1.off o, fun xs e => ⟨(t.1.2 xs e).1, fun x hx => ((t.1.2 xs e).2 x hx).off o⟩⟩, t.2⟩
theorem cut_len {α : Type} (xs : List α) (lo hi : Option Int) : (cut xs lo hi).length ≤ xs.length := by
  unfold cut
  rw [List.length_take, List.length_drop]
  omega
theorem cut_mem {α : Type} {xs : List α} {lo hi : Option Int} {x : α} (h : x ∈ cut xs lo hi) : x ∈ xs := List.mem_of_mem_drop (List.mem_of_mem_take h)
theorem nr_aux (F : Fns) (W : Nat) {h H0 : CH} {q0 : Nat} {xs odds : List CV} {m : Int} {a b : List Nat} {D : CV} (hx : ∀ x ∈ xs, DeedOf x) (hl : xs.length ≤ 20) (ha : Nm a) (hb : Nm b) (hD : D = .tup [.str [115, 101, 110, 100], .str a, .str b, .str a])
    (g : H0[q0]? = some (.lst odds)) (ho : ∀ x ∈ odds, TD H0 x ∧ deedV x = false) (lo : odds.length ≤ 40) (o : Off [] h H0) :
    ∃ r h' ys, runK (seqC (bindE (compK F (.bin .add (.bin .add (.sl (.var 0) .no (.ex (.var 1))) (.tup (.cons (.var 7) .nil))) (.sl (.var 0) (.ex (.var 1)) .no)) (.lit (.bl true)) 7 [some (.tup xs), some (.int m), some (.str a), some (.str b), some D, some (.ref q0), none, none] (.cell q0) H0) (asgK F (.nm 6) [some (.tup xs), some (.int m), some (.str a), some (.str b), some D, some (.ref q0), none, none])) (execCs F W (.cons (.ret (.bin .add (.var 6) (.lst (.cons (.bi .list (.cons (.var 0) .nil)) (.cons (.lit .non) (.cons (.lit (.int 7)) (.cons (.lit (.bl true)) (.cons (.lit (.str [45])) (.cons (.lit (.str [])) (.cons .dct0 (.cons (.var 4) (.cons (.lst (.cons (.var 0) .nil)) (.cons (.tup (.cons (.var 0) (.cons (.var 0) (.cons (.tup (.cons (.var 4) .nil)) .nil)))) (.cons (.tup (.cons (.lst .nil) .nil)) .nil)))))))))))))) .nil))) = some (.ref r, h') ∧ h'[r]? = some (.lst ys) ∧ (∀ y ∈ ys, NR h' y) ∧ ys.length ≤ 100 ∧ Off [] h h' := by
  subst hD
  have k1 := cut_len xs none (some m)
  have k2 := cut_len xs (some m) none
  have at1 : ∀ x h, binV .add (.tup (cut xs none (some m))) (.tup [x]) h = some (.tup (cut xs none (some m) ++ [x]), h) := fun x h => v_addT (lim_big (by simp only [List.length_cons, List.length_nil]; omega))
  have at2 : ∀ x h, binV .add (.tup (cut xs none (some m) ++ [x])) (.tup (cut xs (some m) none)) h = some (.tup (cut xs none (some m) ++ [x] ++ cut xs (some m) none), h) := fun x h => v_addT (lim_big (by simp only [List.length_append, List.length_cons, List.length_nil]; omega))
  have ec := comp_all (F := F) (s := [some (.tup xs), some (.int m), some (.str a), some (.str b), some (.tup [.str [115, 101, 110, 100], .str a, .str b, .str a]), some (.ref q0), none, none]) (h := H0) (elt := (.bin .add (.bin .add (.sl (.var 0) .no (.ex (.var 1))) (.tup (.cons (.var 7) .nil))) (.sl (.var 0) (.ex (.var 1)) .no))) (i := 7) (src := .cell q0) (xs := odds) (fun x => .tup (cut xs none (some m) ++ [x] ++ cut xs (some m) none)) (fun i => src_cell g) (src_cellL g) (lim_big (by omega))
    (fun x hx' => by simp only [run_eq, List.length_cons, List.length_nil, List.map_cons, List.map_nil, List.cons_append, List.nil_append, List.replicate, List.set_cons_zero, List.set_cons_succ, x_cons, x_nil, seqC_nx, seqC_rt, x_asg, asgK_nm, asgK_sub, retS_some, retH_some, sub1_eq, sub2_eq, x_expr, exK_eq, x_ret, retK_eq, x_retn, x_iff, iffK_t, iffK_f, x_fo, x_pas, x_par, runK_nx, runK_rt, bindE_some, bindL_some, bindO_some, bindI_some, bindB_some, liftB_some, retV_some, asB_bl, bin1_eq, e_bin, cmpK_eq, cmp1_eq, e_cmp, cmpR_t, cmpR_f, cmp2a_eq, e_cmp2, cmpR3_t, cmpR3_f, cmp3a_eq, e_cmp3, e_and, e_or, andK_t, andK_f, orK_t, orK_f, bOut_eq, notK_eq, e_not, negK_int, e_neg, iteK_t, iteK_f, e_ite, tupK2_eq, e_tup, lstK_eq, e_lst, e_dct0, ixK_eq, ix1_eq, e_ix, sl1_eq, sl2_eq, e_sl, e_rev, o_no, o_ex, oK_int, e_call, e_bi, e_me, s_nil, s_cons, consA_eq, consB_eq, e_lit, e_glob, e_var0, e_varS, e_comp, i_range1, i_range2, r2a_eq, i_val, vK_tup, vK_str, t_lit, t_cmp, t_cmp2, t_cmp3, t_call, t_bi, t_var, t_and, t_or, t_not, andT_t, andT_f, orT_t, orT_f, notT_eq, v_add, v_sub, c_lt, c_le, c_gt, c_ge, c_eqI, c_neI, c_eqS, c_neS, c_isN, c_isnotN, c_isB, c_isnotB, x_tup, x_lstV, sl_lstV, sl_tup, b_lenT, b_lenV, decide_true, decide_false, Bool.not_true, Bool.not_false, at1, at2])
  have hlim : odds.length + 11 ≤ lim := lim_big (by omega)
  simp only [run_eq, List.length_cons, List.length_nil, List.map_cons, List.map_nil, List.cons_append, List.nil_append, List.replicate, List.set_cons_zero, List.set_cons_succ, x_cons, x_nil, seqC_nx, seqC_rt, x_asg, asgK_nm, asgK_sub, retS_some, retH_some, sub1_eq, sub2_eq, x_expr, exK_eq, x_ret, retK_eq, x_retn, x_iff, iffK_t, iffK_f, x_fo, x_pas, x_par, runK_nx, runK_rt, bindE_some, bindL_some, bindO_some, bindI_some, bindB_some, liftB_some, retV_some, asB_bl, bin1_eq, e_bin, cmpK_eq, cmp1_eq, e_cmp, cmpR_t, cmpR_f, cmp2a_eq, e_cmp2, cmpR3_t, cmpR3_f, cmp3a_eq, e_cmp3, e_and, e_or, andK_t, andK_f, orK_t, orK_f, bOut_eq, notK_eq, e_not, negK_int, e_neg, iteK_t, iteK_f, e_ite, tupK2_eq, e_tup, lstK_eq, e_lst, e_dct0, ixK_eq, ix1_eq, e_ix, sl1_eq, sl2_eq, e_sl, e_rev, o_no, o_ex, oK_int, e_call, e_bi, e_me, s_nil, s_cons, consA_eq, consB_eq, e_lit, e_glob, e_var0, e_varS, e_comp, i_range1, i_range2, r2a_eq, i_val, vK_tup, vK_str, t_lit, t_cmp, t_cmp2, t_cmp3, t_call, t_bi, t_var, t_and, t_or, t_not, andT_t, andT_f, orT_t, orT_f, notT_eq, v_add, v_sub, c_lt, c_le, c_gt, c_ge, c_eqI, c_neI, c_eqS, c_neS, c_isN, c_isnotN, c_isB, c_isnotB, x_tup, x_lstV, sl_lstV, sl_tup, b_lenT, b_lenV, decide_true, decide_false, Bool.not_true, Bool.not_false, at0, at1, at2, at3, Nat.reduceAdd, Nat.reduceSub, Nat.reduceMul, Int.reduceAdd, Int.reduceSub, Int.reduceMul, Int.reduceNeg, Int.reduceLT, Int.reduceLE, Int.reduceToNat, Int.cast_ofNat_Int, get_at, get_at0, set_at, set_at0, v_addR, addO_ok, b_lenR, lenO_lst, x_ref, ixO_lst, sl_ref, slO_lst, set_ref, m_appR, appO_lst, b_allR, b_anyR, b_listT, vK_ref, vO_lst, me1_app, recO_lst, when_t, List.append_assoc, List.length_append, List.getElem?_cons_zero, List.getElem?_cons_succ, Nat.zero_add, lim_big, lim_lt, Nat.reduceLeDiff, Nat.reduceLT, ec, b_listT, List.length_map, hlim]
  refine ⟨_, _, _, rfl, get_at, ?_, by simp only [List.length_append, List.length_map, List.length_cons, List.length_nil]; omega, o.trans (Off.app _ _ _)⟩
  intro y hy
  have rf : ∀ x ∈ odds, rowV (.tup (cut xs none (some m) ++ x :: cut xs (some m) none)) = false := fun x hx' => by
    simp only [rowV, List.all_append, List.all_cons, (ho x hx').2, Bool.false_and, Bool.and_false]
  have dx : deedV (.tup xs) = false := by
    match xs, hx with
    | [], _ => rfl
    | [_], _ => rfl
    | [_, _], _ => rfl
    | [_, _, _], _ => rfl
    | [k, u, v, w], hx =>
      obtain ⟨_, _, _, _, rfl, _⟩ := hx u (by simp)
      simp only [deedV, nmV, Bool.false_and]
    | _ :: _ :: _ :: _ :: _ :: _, _ => rfl
  have tx : ∀ h : CH, TD h (.tup xs) := fun h => ⟨⟨trivial, fun _ e => by cases e⟩, fun zs e l z hz => by
    cases e
    exact ((hx z hz).td (h := h)).1⟩
  have ts : ∀ (k : List Nat) (h : CH), k.length ≤ 1000 → TD h (.str k) := fun k h hk => ⟨part_str hk, fun _ e => by cases e⟩
  rcases List.mem_append.mp hy with hy | hy
  · obtain ⟨x, hx', rfl⟩ := List.mem_map.mp hy
    refine ⟨⟨trivial, fun zs e => ?_⟩, rf x hx'⟩
    cases e
    refine ⟨by have := cut_len xs none (some m); have := cut_len xs (some m) none; simp only [List.length_append, List.length_cons]; omega, fun z hz => ?_⟩
    rcases List.mem_append.mp hz with hz | hz
    · exact (hx z (cut_mem hz)).td
    · rcases List.mem_cons.mp hz with rfl | hz
      · exact (ho _ hx').1.off (Off.app _ _ _)
      · exact (hx z (cut_mem hz)).td
  · simp only [List.mem_cons, List.not_mem_nil, or_false] at hy
    rcases hy with rfl | rfl | rfl | rfl | rfl | rfl | rfl | rfl | rfl | rfl | rfl
    · exact ⟨⟨.inl ⟨_, get_at⟩, fun _ e => by cases e⟩, rfl⟩
    · exact ⟨⟨trivial, fun _ e => by cases e⟩, rfl⟩
    · exact ⟨⟨trivial, fun _ e => by cases e⟩, rfl⟩
    · exact ⟨⟨trivial, fun _ e => by cases e⟩, rfl⟩
    · exact ⟨⟨trivial, fun _ e => by cases e⟩, rfl⟩
    · exact ⟨⟨trivial, fun _ e => by cases e⟩, rfl⟩
    · exact ⟨⟨.inr ⟨_, get_at⟩, fun _ e => by cases e⟩, rfl⟩
    · refine ⟨⟨trivial, fun zs e => ?_⟩, rfl⟩
      cases e
      refine ⟨by simp, fun z hz => ?_⟩
      simp only [List.mem_cons, List.not_mem_nil, or_false] at hz
      rcases hz with rfl | rfl | rfl | rfl
      · exact ts _ _ (by decide)
      · exact ts _ _ (by have := ha.2.1; omega)
      · exact ts _ _ (by have := hb.2.1; omega)
      · exact ts _ _ (by have := ha.2.1; omega)
    · exact ⟨⟨.inl ⟨_, get_at⟩, fun _ e => by cases e⟩, rfl⟩
    · refine ⟨⟨trivial, fun zs e => ?_⟩, ?_⟩
      · cases e
        refine ⟨by simp, fun z hz => ?_⟩
        simp only [List.mem_cons, List.not_mem_nil, or_false] at hz
        rcases hz with rfl | rfl | rfl
        · exact tx _
        · exact tx _
        · exact td_tup (by simp)
      · simp only [rowV, List.all_cons, dx, Bool.false_and]
    · refine ⟨⟨trivial, fun zs e => ?_⟩, rfl⟩
      cases e
      refine ⟨by simp, fun z hz => ?_⟩
      rw [List.mem_singleton.mp hz]
      exact ⟨⟨.inl ⟨_, get_at⟩, fun _ e => by cases e⟩, fun _ e => by cases e⟩
theorem run_norows (F : Fns) (W : Nat) {h : CH} {xs : List CV} {m : Int} {a b : List Nat} (hx : ∀ x ∈ xs, DeedOf x) (hl : xs.length ≤ 20) (ha : Nm a) (hb : Nm b) (hab : a ≠ b) :
    ∃ r h' ys, runC F W n15.length b15 [.tup xs, .int m, .str a, .str b] h = some (.ref r, h') ∧ h'[r]? = some (.lst ys) ∧ (∀ y ∈ ys, NR h' y) ∧ ys.length ≤ 100 ∧ Off [] h h' := by
  have hal := ha.2.1
  have sl := fun h => sl_str (s := a) (lo := none) (hi := some 7) (h := h) (lim_big (by omega))
  have s7 : cut a none (some 7) = a.take 7 := cut_to a 7
  have l7 : (a.take 7).length ≤ 8 := by rw [List.length_take]; omega
  have ad := fun h => v_addS (h := h) (a := a.take 7) (b := [120]) (lim_big (by simp only [List.length_cons, List.length_nil]; omega))
  have c3 : cut [CV.str [115, 101, 110, 100], .str a, .str b, .str a] none (some 3) = [.str [115, 101, 110, 100], .str a, .str b] := cut_to [CV.str [115, 101, 110, 100], .str a, .str b, .str a] 3
  have c1 : cut [CV.str [115, 101, 110, 100], .str a, .str b, .str a] (some 1) none = [.str a, .str b, .str a] := cut_from [CV.str [115, 101, 110, 100], .str a, .str b, .str a] 1
  simp only [b15, n15, run_eq, List.length_cons, List.length_nil, List.map_cons, List.map_nil, List.cons_append, List.nil_append, List.replicate, List.set_cons_zero, List.set_cons_succ, x_cons, x_nil, seqC_nx, seqC_rt, x_asg, asgK_nm, asgK_sub, retS_some, retH_some, sub1_eq, sub2_eq, x_expr, exK_eq, x_ret, retK_eq, x_retn, x_iff, iffK_t, iffK_f, x_fo, x_pas, x_par, runK_nx, runK_rt, bindE_some, bindL_some, bindO_some, bindI_some, bindB_some, liftB_some, retV_some, asB_bl, bin1_eq, e_bin, cmpK_eq, cmp1_eq, e_cmp, cmpR_t, cmpR_f, cmp2a_eq, e_cmp2, cmpR3_t, cmpR3_f, cmp3a_eq, e_cmp3, e_and, e_or, andK_t, andK_f, orK_t, orK_f, bOut_eq, notK_eq, e_not, negK_int, e_neg, iteK_t, iteK_f, e_ite, tupK2_eq, e_tup, lstK_eq, e_lst, e_dct0, ixK_eq, ix1_eq, e_ix, sl1_eq, sl2_eq, e_sl, e_rev, o_no, o_ex, oK_int, e_call, e_bi, e_me, s_nil, s_cons, consA_eq, consB_eq, e_lit, e_glob, e_var0, e_varS, e_comp, i_range1, i_range2, r2a_eq, i_val, vK_tup, vK_str, t_lit, t_cmp, t_cmp2, t_cmp3, t_call, t_bi, t_var, t_and, t_or, t_not, andT_t, andT_f, orT_t, orT_f, notT_eq, v_add, v_sub, c_lt, c_le, c_gt, c_ge, c_eqI, c_neI, c_eqS, c_neS, c_isN, c_isnotN, c_isB, c_isnotB, x_tup, x_lstV, sl_lstV, sl_tup, b_lenT, b_lenV, decide_true, decide_false, Bool.not_true, Bool.not_false, at0, at1, at2, at3, Nat.reduceAdd, Nat.reduceSub, Nat.reduceMul, Int.reduceAdd, Int.reduceSub, Int.reduceMul, Int.reduceNeg, Int.reduceLT, Int.reduceLE, Int.reduceToNat, Int.cast_ofNat_Int, get_at, get_at0, set_at, set_at0, v_addR, addO_ok, b_lenR, lenO_lst, x_ref, ixO_lst, sl_ref, slO_lst, set_ref, m_appR, appO_lst, b_allR, b_anyR, b_listT, vK_ref, vO_lst, me1_app, recO_lst, when_t, List.append_assoc, List.length_append, List.getElem?_cons_zero, List.getElem?_cons_succ, Nat.zero_add, lim_big, lim_lt, Nat.reduceLeDiff, Nat.reduceLT, c3, c1, v_addT, sl, s7, ad, b_listT]
  refine nr_aux F W hx hl ha hb rfl get_at ?_ (by simp) (Off.app _ _ _)
  intro x hx'
  simp only [List.mem_cons, List.not_mem_nil, or_false] at hx'
  have ps : ∀ (k : List Nat) (h : CH), k.length ≤ 1000 → Part h (.str k) := fun k h hk => part_str hk
  have pa : ∀ h : CH, Part h (.str a) := fun h => part_str (by omega)
  have pb : ∀ h : CH, Part h (.str b) := fun h => part_str (by have := hb.2.1; omega)
  have pn : ∀ {h : CH} {v : CV}, Typ h v → (∀ k, v ≠ .str k) → Part h v := fun t n => ⟨t, fun k e => absurd e (n k)⟩
  have tn : ∀ {h : CH} {v : CV}, Typ h v → (∀ k, v ≠ .str k) → (∀ k, v ≠ .tup k) → TD h v := fun t n n2 => ⟨pn t n, fun zs e => absurd e (n2 zs)⟩
  have ko : ∀ x y z u : CV, kindV u = false → deedV (.tup [u, x, y, z]) = false := fun x y z u hu => by simp only [deedV, hu, Bool.and_false, Bool.false_and]
  have n1 : ∀ x y z u : CV, nmV x = false → deedV (.tup [u, x, y, z]) = false := fun x y z u hu => by simp only [deedV, hu, Bool.and_false, Bool.false_and]
  have n2 : ∀ x y z u : CV, nmV y = false → deedV (.tup [u, x, y, z]) = false := fun x y z u hu => by simp only [deedV, hu, Bool.and_false, Bool.false_and]
  have n3 : ∀ x y z u : CV, nmV z = false → deedV (.tup [u, x, y, z]) = false := fun x y z u hu => by simp only [deedV, hu, Bool.and_false, Bool.false_and]
  rcases hx' with rfl | rfl | rfl | rfl | rfl | rfl | rfl | rfl | rfl | rfl | rfl | rfl | rfl | rfl | rfl | rfl | rfl | rfl | rfl | rfl | rfl | rfl
  · exact ⟨tn (.inl ⟨_, get_at0⟩) (fun _ e => by cases e) (fun _ e => by cases e), rfl⟩
  · exact ⟨td_tup (by simp), rfl⟩
  · exact ⟨td_tup (by simp), rfl⟩
  · exact ⟨td4 (ps _ _ (by decide)) (pa _) (pa _) (pb _), by simp only [deedV, ne_eq, not_true_eq_false, decide_false, Bool.and_false]⟩
  · exact ⟨td4 (ps _ _ (by decide)) (pa _) (pb _) (pa _), ko _ _ _ _ (by decide)⟩
  · exact ⟨tn trivial (fun _ e => by cases e) (fun _ e => by cases e), rfl⟩
  · exact ⟨⟨ps _ _ (by decide), fun _ e => by cases e⟩, rfl⟩
  · exact ⟨⟨pa _, fun _ e => by cases e⟩, rfl⟩
  · exact ⟨td_tup (by simp), rfl⟩
  · exact ⟨td_tup (by simp), rfl⟩
  · exact ⟨tn (.inr ⟨_, get_at⟩) (fun _ e => by cases e) (fun _ e => by cases e), rfl⟩
  · exact ⟨tn (.inl ⟨_, get_at⟩) (fun _ e => by cases e) (fun _ e => by cases e), rfl⟩
  · exact ⟨td_tup (by simp), rfl⟩
  · exact ⟨td4 (ps _ _ (by decide)) (pa _) (pb _) (ps _ _ (by decide)), n3 _ _ _ _ (by decide)⟩
  · exact ⟨td4 (ps _ _ (by decide)) (pa _) (ps _ _ (by decide)) (pa _), n2 _ _ _ _ (by decide)⟩
  · exact ⟨tn trivial (fun _ e => by cases e) (fun _ e => by cases e), rfl⟩
  · exact ⟨tn trivial (fun _ e => by cases e) (fun _ e => by cases e), rfl⟩
  · exact ⟨td4 (ps _ _ (by decide)) (pn trivial fun _ e => by cases e) (pa _) (pa _), n1 _ _ _ _ rfl⟩
  · refine ⟨td4 (ps _ _ (by rw [List.length_append]; simp only [List.length_cons, List.length_nil]; omega)) (pa _) (pb _) (pa _), ko _ _ _ _ ?_⟩
    have hne : ∀ t : List Nat, 120 ∉ t → a.take 7 ++ [120] ≠ t := fun t ht e => ht (by rw [← e]; simp)
    simp only [kindV, hne kSend (by decide), hne kTake (by decide), decide_false, Bool.or_false]
  · exact ⟨td4 (ps _ _ (by decide)) (pn (.inl ⟨_, get_at⟩) fun _ e => by cases e) (pb _) (pa _), n1 _ _ _ _ rfl⟩
  · exact ⟨td4 (ps _ _ (by decide)) (pa _) (pn (.inr ⟨_, get_at⟩) fun _ e => by cases e) (pa _), n2 _ _ _ _ rfl⟩
  · exact ⟨⟨ps _ _ (by decide), fun _ e => by cases e⟩, rfl⟩
end TH

namespace TH
open PySem
/-! ### rows as data -/
structure Dd where
  s : Bool
  a : List Nat
  b : List Nat
  c : List Nat
deriving DecidableEq
def kd (s : Bool) : List Nat := if s = true then kSend else kTake
def Dd.cv (d : Dd) : CV := .tup [.str (kd d.s), .str d.a, .str d.b, .str d.c]
def Dd.tk (d : Dd) : Dd := { d with s := false }
def Dd.ok (d : Dd) : Prop := Nm d.a ∧ Nm d.b ∧ Nm d.c ∧ d.a ≠ d.b
theorem kd_inj {s t : Bool} (e : kd s = kd t) : s = t := by cases s <;> cases t <;> first | rfl | (exact absurd e (by decide))
theorem kd_send {s : Bool} : decide (kd s = [115, 101, 110, 100]) = s := by cases s <;> decide
theorem kd_take {s : Bool} : decide (kd s = [116, 97, 107, 101]) = !s := by cases s <;> decide
theorem Dd.cv_inj {d e : Dd} (h : d.cv = e.cv) : d = e := by
  obtain ⟨s, a, b, c⟩ := d
  obtain ⟨t, x, y, z⟩ := e
  simp only [Dd.cv, CV.tup.injEq, List.cons.injEq, CV.str.injEq, and_true] at h
  obtain ⟨h1, rfl, rfl, rfl⟩ := h
  rw [kd_inj h1]
theorem dd_map {xs ys : List Dd} : decide (xs.map Dd.cv = ys.map Dd.cv) = decide (xs = ys) := by
  by_cases h : xs = ys
  · subst h; simp
  · have : ¬ xs.map Dd.cv = ys.map Dd.cv := fun e => h ((List.map_inj_right fun _ _ => Dd.cv_inj).mp e)
    rw [decide_eq_false h, decide_eq_false this]
theorem dd_dec {x y : Dd} : decide (x.cv = y.cv) = decide (x = y) := by
  by_cases h : x = y
  · subst h; simp
  · have : ¬ x.cv = y.cv := fun e => h (Dd.cv_inj e)
    rw [decide_eq_false h, decide_eq_false this]
theorem Dd.pl (d : Dd) (n : Nat) : pl (n + 1) d.cv = true := by simp only [Dd.cv, TH.pl, TH.pls, Bool.and_self]
theorem dd_pls (ds : List Dd) (n : Nat) : pls (n + 1) (ds.map Dd.cv) = true := pls_iff.mpr fun x hx => by
  obtain ⟨d, _, rfl⟩ := List.mem_map.mp hx
  exact d.pl n
theorem Dd.of {x : CV} (h : DeedOf x) : ∃ d : Dd, x = d.cv ∧ d.ok := by
  obtain ⟨k, a, b, c, rfl, hk, ha, hb, hc, hab⟩ := h
  rcases hk with rfl | rfl
  · exact ⟨⟨true, a, b, c⟩, rfl, ha, hb, hc, hab⟩
  · exact ⟨⟨false, a, b, c⟩, rfl, ha, hb, hc, hab⟩
theorem Dd.deed {d : Dd} (h : d.ok) : DeedOf d.cv := ⟨kd d.s, d.a, d.b, d.c, rfl, by cases d.s <;> simp [kd], h.1, h.2.1, h.2.2.1, h.2.2.2⟩
theorem dd_list : ∀ {xs : List CV}, (∀ x ∈ xs, DeedOf x) → ∃ ds : List Dd, xs = ds.map Dd.cv ∧ ∀ d ∈ ds, d.ok
  | [], _ => ⟨[], rfl, fun d hd => by cases hd⟩
  | x :: xs, h => by
    obtain ⟨d, rfl, hd⟩ := Dd.of (h x List.mem_cons_self)
    obtain ⟨ds, rfl, hds⟩ := dd_list fun y hy => h y (List.mem_cons_of_mem _ hy)
    exact ⟨d :: ds, rfl, fun e he => by
      rcases List.mem_cons.mp he with rfl | he
      · exact hd
      · exact hds e he⟩
theorem eq_rows {h : CH} {ds es : List Dd} : eqV h (.tup (ds.map Dd.cv)) (.tup (es.map Dd.cv)) = some (decide (ds = es)) := by
  rw [eqV_pl (by simp only [TH.pl]; exact dd_pls ds 17) (by simp only [TH.pl]; exact dd_pls es 17)]
  rw [← dd_map]
  congr 1
  exact decide_eq_decide.mpr (by simp)
theorem eq_deed {h : CH} {d e : Dd} : eqV h d.cv e.cv = some (decide (d = e)) := by
  rw [eqV_pl (d.pl 18) (e.pl 18), dd_dec]
/-! ### texts of rows -/
def Dd.one (d : Dd) : List Nat := if d.s = true then d.a ++ [33] ++ d.b ++ [58] ++ d.c else d.b ++ [63] ++ d.a ++ [58] ++ d.c
def Dd.two (d : Dd) : List Nat := d.a ++ [62] ++ d.b ++ [58] ++ d.c
def isBoth (d e : Dd) : Bool := d.s && decide (e = d.tk)
def parts : List Dd → List (List Nat)
  | d :: e :: r => if isBoth d e = true then d.two :: parts r else d.one :: parts (e :: r)
  | [d] => [d.one]
  | [] => []
theorem Dd.len {d : Dd} (h : d.ok) : d.a.length ≤ 8 ∧ d.b.length ≤ 8 ∧ d.c.length ≤ 8 := ⟨h.1.2.1, h.2.1.2.1, h.2.2.1.2.1⟩
theorem cut1 {α : Type} {x : α} {xs : List α} : cut (x :: xs) (some 1) none = xs := cut_from (x :: xs) 1
theorem add5 {h : CH} {F : Fns} {s : Env} {x y z : CE} {a b c : List Nat} {m n : Nat} (ha : a.length ≤ 100) (hb : b.length ≤ 100) (hc : c.length ≤ 100) (ex : evalC F x s h = some (.str a, h)) (ey : evalC F y s h = some (.str b, h)) (ez : evalC F z s h = some (.str c, h)) :
    evalC F (.bin .add (.bin .add (.bin .add (.bin .add x (.lit (.str [m]))) y) (.lit (.str [n]))) z) s h = some (.str (a ++ [m] ++ b ++ [n] ++ c), h) := by
  have l : ∀ t : List Nat, t.length ≤ 1000 → t.length ≤ lim := fun t ht => lim_big (by omega)
  simp only [run_eq, List.length_cons, List.length_nil, List.map_cons, List.map_nil, List.cons_append, List.nil_append, List.replicate, List.set_cons_zero, List.set_cons_succ, x_cons, x_nil, seqC_nx, seqC_rt, x_asg, asgK_nm, asgK_sub, retS_some, retH_some, sub1_eq, sub2_eq, x_expr, exK_eq, x_ret, retK_eq, x_retn, x_iff, iffK_t, iffK_f, x_fo, x_pas, x_par, runK_nx, runK_rt, bindE_some, bindL_some, bindO_some, bindI_some, bindB_some, liftB_some, retV_some, asB_bl, bin1_eq, e_bin, cmpK_eq, cmp1_eq, e_cmp, cmpR_t, cmpR_f, cmp2a_eq, e_cmp2, cmpR3_t, cmpR3_f, cmp3a_eq, e_cmp3, e_and, e_or, andK_t, andK_f, orK_t, orK_f, bOut_eq, notK_eq, e_not, negK_int, e_neg, iteK_t, iteK_f, e_ite, tupK2_eq, e_tup, lstK_eq, e_lst, e_dct0, ixK_eq, ix1_eq, e_ix, sl1_eq, sl2_eq, e_sl, e_rev, o_no, o_ex, oK_int, e_call, e_bi, e_me, s_nil, s_cons, consA_eq, consB_eq, e_lit, e_glob, e_var0, e_varS, e_comp, i_range1, i_range2, r2a_eq, i_val, vK_tup, vK_str, t_lit, t_cmp, t_cmp2, t_cmp3, t_call, t_bi, t_var, t_and, t_or, t_not, andT_t, andT_f, orT_t, orT_f, notT_eq, v_add, v_sub, c_lt, c_le, c_gt, c_ge, c_eqI, c_neI, c_eqS, c_neS, c_isN, c_isnotN, c_isB, c_isnotB, x_tup, x_lstV, sl_lstV, sl_tup, b_lenT, b_lenV, decide_true, decide_false, Bool.not_true, Bool.not_false, at0, at1, at2, at3, Nat.reduceAdd, Nat.reduceSub, Nat.reduceMul, Int.reduceAdd, Int.reduceSub, Int.reduceMul, Int.reduceNeg, Int.reduceLT, Int.reduceLE, Int.reduceToNat, Int.cast_ofNat_Int, get_at, get_at0, set_at, set_at0, v_addR, addO_ok, b_lenR, lenO_lst, x_ref, ixO_lst, sl_ref, slO_lst, set_ref, m_appR, appO_lst, b_allR, b_anyR, b_listT, vK_ref, vO_lst, me1_app, recO_lst, when_t, List.append_assoc, List.length_append, List.getElem?_cons_zero, List.getElem?_cons_succ, Nat.zero_add, lim_big, lim_lt, Nat.reduceLeDiff, Nat.reduceLT, ex, ey, ez]
  rw [v_addS (lim_big (by simp; omega))]
  simp only [run_eq, List.length_cons, List.length_nil, List.map_cons, List.map_nil, List.cons_append, List.nil_append, List.replicate, List.set_cons_zero, List.set_cons_succ, x_cons, x_nil, seqC_nx, seqC_rt, x_asg, asgK_nm, asgK_sub, retS_some, retH_some, sub1_eq, sub2_eq, x_expr, exK_eq, x_ret, retK_eq, x_retn, x_iff, iffK_t, iffK_f, x_fo, x_pas, x_par, runK_nx, runK_rt, bindE_some, bindL_some, bindO_some, bindI_some, bindB_some, liftB_some, retV_some, asB_bl, bin1_eq, e_bin, cmpK_eq, cmp1_eq, e_cmp, cmpR_t, cmpR_f, cmp2a_eq, e_cmp2, cmpR3_t, cmpR3_f, cmp3a_eq, e_cmp3, e_and, e_or, andK_t, andK_f, orK_t, orK_f, bOut_eq, notK_eq, e_not, negK_int, e_neg, iteK_t, iteK_f, e_ite, tupK2_eq, e_tup, lstK_eq, e_lst, e_dct0, ixK_eq, ix1_eq, e_ix, sl1_eq, sl2_eq, e_sl, e_rev, o_no, o_ex, oK_int, e_call, e_bi, e_me, s_nil, s_cons, consA_eq, consB_eq, e_lit, e_glob, e_var0, e_varS, e_comp, i_range1, i_range2, r2a_eq, i_val, vK_tup, vK_str, t_lit, t_cmp, t_cmp2, t_cmp3, t_call, t_bi, t_var, t_and, t_or, t_not, andT_t, andT_f, orT_t, orT_f, notT_eq, v_add, v_sub, c_lt, c_le, c_gt, c_ge, c_eqI, c_neI, c_eqS, c_neS, c_isN, c_isnotN, c_isB, c_isnotB, x_tup, x_lstV, sl_lstV, sl_tup, b_lenT, b_lenV, decide_true, decide_false, Bool.not_true, Bool.not_false, at0, at1, at2, at3, Nat.reduceAdd, Nat.reduceSub, Nat.reduceMul, Int.reduceAdd, Int.reduceSub, Int.reduceMul, Int.reduceNeg, Int.reduceLT, Int.reduceLE, Int.reduceToNat, Int.cast_ofNat_Int, get_at, get_at0, set_at, set_at0, v_addR, addO_ok, b_lenR, lenO_lst, x_ref, ixO_lst, sl_ref, slO_lst, set_ref, m_appR, appO_lst, b_allR, b_anyR, b_listT, vK_ref, vO_lst, me1_app, recO_lst, when_t, List.append_assoc, List.length_append, List.getElem?_cons_zero, List.getElem?_cons_succ, Nat.zero_add, lim_big, lim_lt, Nat.reduceLeDiff, Nat.reduceLT, ex, ey, ez]
  rw [v_addS (lim_big (by simp; omega))]
  simp only [run_eq, List.length_cons, List.length_nil, List.map_cons, List.map_nil, List.cons_append, List.nil_append, List.replicate, List.set_cons_zero, List.set_cons_succ, x_cons, x_nil, seqC_nx, seqC_rt, x_asg, asgK_nm, asgK_sub, retS_some, retH_some, sub1_eq, sub2_eq, x_expr, exK_eq, x_ret, retK_eq, x_retn, x_iff, iffK_t, iffK_f, x_fo, x_pas, x_par, runK_nx, runK_rt, bindE_some, bindL_some, bindO_some, bindI_some, bindB_some, liftB_some, retV_some, asB_bl, bin1_eq, e_bin, cmpK_eq, cmp1_eq, e_cmp, cmpR_t, cmpR_f, cmp2a_eq, e_cmp2, cmpR3_t, cmpR3_f, cmp3a_eq, e_cmp3, e_and, e_or, andK_t, andK_f, orK_t, orK_f, bOut_eq, notK_eq, e_not, negK_int, e_neg, iteK_t, iteK_f, e_ite, tupK2_eq, e_tup, lstK_eq, e_lst, e_dct0, ixK_eq, ix1_eq, e_ix, sl1_eq, sl2_eq, e_sl, e_rev, o_no, o_ex, oK_int, e_call, e_bi, e_me, s_nil, s_cons, consA_eq, consB_eq, e_lit, e_glob, e_var0, e_varS, e_comp, i_range1, i_range2, r2a_eq, i_val, vK_tup, vK_str, t_lit, t_cmp, t_cmp2, t_cmp3, t_call, t_bi, t_var, t_and, t_or, t_not, andT_t, andT_f, orT_t, orT_f, notT_eq, v_add, v_sub, c_lt, c_le, c_gt, c_ge, c_eqI, c_neI, c_eqS, c_neS, c_isN, c_isnotN, c_isB, c_isnotB, x_tup, x_lstV, sl_lstV, sl_tup, b_lenT, b_lenV, decide_true, decide_false, Bool.not_true, Bool.not_false, at0, at1, at2, at3, Nat.reduceAdd, Nat.reduceSub, Nat.reduceMul, Int.reduceAdd, Int.reduceSub, Int.reduceMul, Int.reduceNeg, Int.reduceLT, Int.reduceLE, Int.reduceToNat, Int.cast_ofNat_Int, get_at, get_at0, set_at, set_at0, v_addR, addO_ok, b_lenR, lenO_lst, x_ref, ixO_lst, sl_ref, slO_lst, set_ref, m_appR, appO_lst, b_allR, b_anyR, b_listT, vK_ref, vO_lst, me1_app, recO_lst, when_t, List.append_assoc, List.length_append, List.getElem?_cons_zero, List.getElem?_cons_succ, Nat.zero_add, lim_big, lim_lt, Nat.reduceLeDiff, Nat.reduceLT, ex, ey, ez]
  rw [v_addS (lim_big (by simp; omega))]
  simp only [run_eq, List.length_cons, List.length_nil, List.map_cons, List.map_nil, List.cons_append, List.nil_append, List.replicate, List.set_cons_zero, List.set_cons_succ, x_cons, x_nil, seqC_nx, seqC_rt, x_asg, asgK_nm, asgK_sub, retS_some, retH_some, sub1_eq, sub2_eq, x_expr, exK_eq, x_ret, retK_eq, x_retn, x_iff, iffK_t, iffK_f, x_fo, x_pas, x_par, runK_nx, runK_rt, bindE_some, bindL_some, bindO_some, bindI_some, bindB_some, liftB_some, retV_some, asB_bl, bin1_eq, e_bin, cmpK_eq, cmp1_eq, e_cmp, cmpR_t, cmpR_f, cmp2a_eq, e_cmp2, cmpR3_t, cmpR3_f, cmp3a_eq, e_cmp3, e_and, e_or, andK_t, andK_f, orK_t, orK_f, bOut_eq, notK_eq, e_not, negK_int, e_neg, iteK_t, iteK_f, e_ite, tupK2_eq, e_tup, lstK_eq, e_lst, e_dct0, ixK_eq, ix1_eq, e_ix, sl1_eq, sl2_eq, e_sl, e_rev, o_no, o_ex, oK_int, e_call, e_bi, e_me, s_nil, s_cons, consA_eq, consB_eq, e_lit, e_glob, e_var0, e_varS, e_comp, i_range1, i_range2, r2a_eq, i_val, vK_tup, vK_str, t_lit, t_cmp, t_cmp2, t_cmp3, t_call, t_bi, t_var, t_and, t_or, t_not, andT_t, andT_f, orT_t, orT_f, notT_eq, v_add, v_sub, c_lt, c_le, c_gt, c_ge, c_eqI, c_neI, c_eqS, c_neS, c_isN, c_isnotN, c_isB, c_isnotB, x_tup, x_lstV, sl_lstV, sl_tup, b_lenT, b_lenV, decide_true, decide_false, Bool.not_true, Bool.not_false, at0, at1, at2, at3, Nat.reduceAdd, Nat.reduceSub, Nat.reduceMul, Int.reduceAdd, Int.reduceSub, Int.reduceMul, Int.reduceNeg, Int.reduceLT, Int.reduceLE, Int.reduceToNat, Int.cast_ofNat_Int, get_at, get_at0, set_at, set_at0, v_addR, addO_ok, b_lenR, lenO_lst, x_ref, ixO_lst, sl_ref, slO_lst, set_ref, m_appR, appO_lst, b_allR, b_anyR, b_listT, vK_ref, vO_lst, me1_app, recO_lst, when_t, List.append_assoc, List.length_append, List.getElem?_cons_zero, List.getElem?_cons_succ, Nat.zero_add, lim_big, lim_lt, Nat.reduceLeDiff, Nat.reduceLT, ex, ey, ez]
  rw [v_addS (lim_big (by simp; omega))]
  simp only [List.append_assoc, List.cons_append, List.nil_append]
section
variable (F : Fns) (W : Nat) {h : CH}
theorem run_taking {d : Dd} : runC F W n17.length b17 [d.cv] h = some (d.tk.cv, h) := by
  have k1 : kd false = [116, 97, 107, 101] := rfl
  simp only [b17, n17, Dd.cv, Dd.tk, k1, run_eq, List.length_cons, List.length_nil, List.map_cons, List.map_nil, List.cons_append, List.nil_append, List.replicate, List.set_cons_zero, List.set_cons_succ, x_cons, x_nil, seqC_nx, seqC_rt, x_asg, asgK_nm, asgK_sub, retS_some, retH_some, sub1_eq, sub2_eq, x_expr, exK_eq, x_ret, retK_eq, x_retn, x_iff, iffK_t, iffK_f, x_fo, x_pas, x_par, runK_nx, runK_rt, bindE_some, bindL_some, bindO_some, bindI_some, bindB_some, liftB_some, retV_some, asB_bl, bin1_eq, e_bin, cmpK_eq, cmp1_eq, e_cmp, cmpR_t, cmpR_f, cmp2a_eq, e_cmp2, cmpR3_t, cmpR3_f, cmp3a_eq, e_cmp3, e_and, e_or, andK_t, andK_f, orK_t, orK_f, bOut_eq, notK_eq, e_not, negK_int, e_neg, iteK_t, iteK_f, e_ite, tupK2_eq, e_tup, lstK_eq, e_lst, e_dct0, ixK_eq, ix1_eq, e_ix, sl1_eq, sl2_eq, e_sl, e_rev, o_no, o_ex, oK_int, e_call, e_bi, e_me, s_nil, s_cons, consA_eq, consB_eq, e_lit, e_glob, e_var0, e_varS, e_comp, i_range1, i_range2, r2a_eq, i_val, vK_tup, vK_str, t_lit, t_cmp, t_cmp2, t_cmp3, t_call, t_bi, t_var, t_and, t_or, t_not, andT_t, andT_f, orT_t, orT_f, notT_eq, v_add, v_sub, c_lt, c_le, c_gt, c_ge, c_eqI, c_neI, c_eqS, c_neS, c_isN, c_isnotN, c_isB, c_isnotB, x_tup, x_lstV, sl_lstV, sl_tup, b_lenT, b_lenV, decide_true, decide_false, Bool.not_true, Bool.not_false, at0, at1, at2, at3, Nat.reduceAdd, Nat.reduceSub, Nat.reduceMul, Int.reduceAdd, Int.reduceSub, Int.reduceMul, Int.reduceNeg, Int.reduceLT, Int.reduceLE, Int.reduceToNat, Int.cast_ofNat_Int, get_at, get_at0, set_at, set_at0, v_addR, addO_ok, b_lenR, lenO_lst, x_ref, ixO_lst, sl_ref, slO_lst, set_ref, m_appR, appO_lst, b_allR, b_anyR, b_listT, vK_ref, vO_lst, me1_app, recO_lst, when_t, List.append_assoc, List.length_append, List.getElem?_cons_zero, List.getElem?_cons_succ, Nat.zero_add, lim_big, lim_lt, Nat.reduceLeDiff, Nat.reduceLT, cut1, v_addT]
theorem run_showdeed {d : Dd} (hd : d.ok) : runC F W n18.length b18 [d.cv] h = some (.str d.one, h) := by
  obtain ⟨l1, l2, l3⟩ := d.len hd
  obtain ⟨s, a, b, c⟩ := d
  have e1 := add5 (F := F) (h := h) (s := [some (.tup [.str (kd s), .str a, .str b, .str c]), some (.str (kd s)), some (.str a), some (.str b), some (.str c)]) (x := .var 2) (y := .var 3) (z := .var 4) (m := 33) (n := 58) (a := a) (b := b) (c := c) (by simp at l1; omega) (by simp at l2; omega) (by simp at l3; omega) (by simp only [run_eq, List.length_cons, List.length_nil, List.map_cons, List.map_nil, List.cons_append, List.nil_append, List.replicate, List.set_cons_zero, List.set_cons_succ, x_cons, x_nil, seqC_nx, seqC_rt, x_asg, asgK_nm, asgK_sub, retS_some, retH_some, sub1_eq, sub2_eq, x_expr, exK_eq, x_ret, retK_eq, x_retn, x_iff, iffK_t, iffK_f, x_fo, x_pas, x_par, runK_nx, runK_rt, bindE_some, bindL_some, bindO_some, bindI_some, bindB_some, liftB_some, retV_some, asB_bl, bin1_eq, e_bin, cmpK_eq, cmp1_eq, e_cmp, cmpR_t, cmpR_f, cmp2a_eq, e_cmp2, cmpR3_t, cmpR3_f, cmp3a_eq, e_cmp3, e_and, e_or, andK_t, andK_f, orK_t, orK_f, bOut_eq, notK_eq, e_not, negK_int, e_neg, iteK_t, iteK_f, e_ite, tupK2_eq, e_tup, lstK_eq, e_lst, e_dct0, ixK_eq, ix1_eq, e_ix, sl1_eq, sl2_eq, e_sl, e_rev, o_no, o_ex, oK_int, e_call, e_bi, e_me, s_nil, s_cons, consA_eq, consB_eq, e_lit, e_glob, e_var0, e_varS, e_comp, i_range1, i_range2, r2a_eq, i_val, vK_tup, vK_str, t_lit, t_cmp, t_cmp2, t_cmp3, t_call, t_bi, t_var, t_and, t_or, t_not, andT_t, andT_f, orT_t, orT_f, notT_eq, v_add, v_sub, c_lt, c_le, c_gt, c_ge, c_eqI, c_neI, c_eqS, c_neS, c_isN, c_isnotN, c_isB, c_isnotB, x_tup, x_lstV, sl_lstV, sl_tup, b_lenT, b_lenV, decide_true, decide_false, Bool.not_true, Bool.not_false]) (by simp only [run_eq, List.length_cons, List.length_nil, List.map_cons, List.map_nil, List.cons_append, List.nil_append, List.replicate, List.set_cons_zero, List.set_cons_succ, x_cons, x_nil, seqC_nx, seqC_rt, x_asg, asgK_nm, asgK_sub, retS_some, retH_some, sub1_eq, sub2_eq, x_expr, exK_eq, x_ret, retK_eq, x_retn, x_iff, iffK_t, iffK_f, x_fo, x_pas, x_par, runK_nx, runK_rt, bindE_some, bindL_some, bindO_some, bindI_some, bindB_some, liftB_some, retV_some, asB_bl, bin1_eq, e_bin, cmpK_eq, cmp1_eq, e_cmp, cmpR_t, cmpR_f, cmp2a_eq, e_cmp2, cmpR3_t, cmpR3_f, cmp3a_eq, e_cmp3, e_and, e_or, andK_t, andK_f, orK_t, orK_f, bOut_eq, notK_eq, e_not, negK_int, e_neg, iteK_t, iteK_f, e_ite, tupK2_eq, e_tup, lstK_eq, e_lst, e_dct0, ixK_eq, ix1_eq, e_ix, sl1_eq, sl2_eq, e_sl, e_rev, o_no, o_ex, oK_int, e_call, e_bi, e_me, s_nil, s_cons, consA_eq, consB_eq, e_lit, e_glob, e_var0, e_varS, e_comp, i_range1, i_range2, r2a_eq, i_val, vK_tup, vK_str, t_lit, t_cmp, t_cmp2, t_cmp3, t_call, t_bi, t_var, t_and, t_or, t_not, andT_t, andT_f, orT_t, orT_f, notT_eq, v_add, v_sub, c_lt, c_le, c_gt, c_ge, c_eqI, c_neI, c_eqS, c_neS, c_isN, c_isnotN, c_isB, c_isnotB, x_tup, x_lstV, sl_lstV, sl_tup, b_lenT, b_lenV, decide_true, decide_false, Bool.not_true, Bool.not_false]) (by simp only [run_eq, List.length_cons, List.length_nil, List.map_cons, List.map_nil, List.cons_append, List.nil_append, List.replicate, List.set_cons_zero, List.set_cons_succ, x_cons, x_nil, seqC_nx, seqC_rt, x_asg, asgK_nm, asgK_sub, retS_some, retH_some, sub1_eq, sub2_eq, x_expr, exK_eq, x_ret, retK_eq, x_retn, x_iff, iffK_t, iffK_f, x_fo, x_pas, x_par, runK_nx, runK_rt, bindE_some, bindL_some, bindO_some, bindI_some, bindB_some, liftB_some, retV_some, asB_bl, bin1_eq, e_bin, cmpK_eq, cmp1_eq, e_cmp, cmpR_t, cmpR_f, cmp2a_eq, e_cmp2, cmpR3_t, cmpR3_f, cmp3a_eq, e_cmp3, e_and, e_or, andK_t, andK_f, orK_t, orK_f, bOut_eq, notK_eq, e_not, negK_int, e_neg, iteK_t, iteK_f, e_ite, tupK2_eq, e_tup, lstK_eq, e_lst, e_dct0, ixK_eq, ix1_eq, e_ix, sl1_eq, sl2_eq, e_sl, e_rev, o_no, o_ex, oK_int, e_call, e_bi, e_me, s_nil, s_cons, consA_eq, consB_eq, e_lit, e_glob, e_var0, e_varS, e_comp, i_range1, i_range2, r2a_eq, i_val, vK_tup, vK_str, t_lit, t_cmp, t_cmp2, t_cmp3, t_call, t_bi, t_var, t_and, t_or, t_not, andT_t, andT_f, orT_t, orT_f, notT_eq, v_add, v_sub, c_lt, c_le, c_gt, c_ge, c_eqI, c_neI, c_eqS, c_neS, c_isN, c_isnotN, c_isB, c_isnotB, x_tup, x_lstV, sl_lstV, sl_tup, b_lenT, b_lenV, decide_true, decide_false, Bool.not_true, Bool.not_false])
  have e2 := add5 (F := F) (h := h) (s := [some (.tup [.str (kd s), .str a, .str b, .str c]), some (.str (kd s)), some (.str a), some (.str b), some (.str c)]) (x := .var 3) (y := .var 2) (z := .var 4) (m := 63) (n := 58) (a := b) (b := a) (c := c) (by simp at l2; omega) (by simp at l1; omega) (by simp at l3; omega) (by simp only [run_eq, List.length_cons, List.length_nil, List.map_cons, List.map_nil, List.cons_append, List.nil_append, List.replicate, List.set_cons_zero, List.set_cons_succ, x_cons, x_nil, seqC_nx, seqC_rt, x_asg, asgK_nm, asgK_sub, retS_some, retH_some, sub1_eq, sub2_eq, x_expr, exK_eq, x_ret, retK_eq, x_retn, x_iff, iffK_t, iffK_f, x_fo, x_pas, x_par, runK_nx, runK_rt, bindE_some, bindL_some, bindO_some, bindI_some, bindB_some, liftB_some, retV_some, asB_bl, bin1_eq, e_bin, cmpK_eq, cmp1_eq, e_cmp, cmpR_t, cmpR_f, cmp2a_eq, e_cmp2, cmpR3_t, cmpR3_f, cmp3a_eq, e_cmp3, e_and, e_or, andK_t, andK_f, orK_t, orK_f, bOut_eq, notK_eq, e_not, negK_int, e_neg, iteK_t, iteK_f, e_ite, tupK2_eq, e_tup, lstK_eq, e_lst, e_dct0, ixK_eq, ix1_eq, e_ix, sl1_eq, sl2_eq, e_sl, e_rev, o_no, o_ex, oK_int, e_call, e_bi, e_me, s_nil, s_cons, consA_eq, consB_eq, e_lit, e_glob, e_var0, e_varS, e_comp, i_range1, i_range2, r2a_eq, i_val, vK_tup, vK_str, t_lit, t_cmp, t_cmp2, t_cmp3, t_call, t_bi, t_var, t_and, t_or, t_not, andT_t, andT_f, orT_t, orT_f, notT_eq, v_add, v_sub, c_lt, c_le, c_gt, c_ge, c_eqI, c_neI, c_eqS, c_neS, c_isN, c_isnotN, c_isB, c_isnotB, x_tup, x_lstV, sl_lstV, sl_tup, b_lenT, b_lenV, decide_true, decide_false, Bool.not_true, Bool.not_false]) (by simp only [run_eq, List.length_cons, List.length_nil, List.map_cons, List.map_nil, List.cons_append, List.nil_append, List.replicate, List.set_cons_zero, List.set_cons_succ, x_cons, x_nil, seqC_nx, seqC_rt, x_asg, asgK_nm, asgK_sub, retS_some, retH_some, sub1_eq, sub2_eq, x_expr, exK_eq, x_ret, retK_eq, x_retn, x_iff, iffK_t, iffK_f, x_fo, x_pas, x_par, runK_nx, runK_rt, bindE_some, bindL_some, bindO_some, bindI_some, bindB_some, liftB_some, retV_some, asB_bl, bin1_eq, e_bin, cmpK_eq, cmp1_eq, e_cmp, cmpR_t, cmpR_f, cmp2a_eq, e_cmp2, cmpR3_t, cmpR3_f, cmp3a_eq, e_cmp3, e_and, e_or, andK_t, andK_f, orK_t, orK_f, bOut_eq, notK_eq, e_not, negK_int, e_neg, iteK_t, iteK_f, e_ite, tupK2_eq, e_tup, lstK_eq, e_lst, e_dct0, ixK_eq, ix1_eq, e_ix, sl1_eq, sl2_eq, e_sl, e_rev, o_no, o_ex, oK_int, e_call, e_bi, e_me, s_nil, s_cons, consA_eq, consB_eq, e_lit, e_glob, e_var0, e_varS, e_comp, i_range1, i_range2, r2a_eq, i_val, vK_tup, vK_str, t_lit, t_cmp, t_cmp2, t_cmp3, t_call, t_bi, t_var, t_and, t_or, t_not, andT_t, andT_f, orT_t, orT_f, notT_eq, v_add, v_sub, c_lt, c_le, c_gt, c_ge, c_eqI, c_neI, c_eqS, c_neS, c_isN, c_isnotN, c_isB, c_isnotB, x_tup, x_lstV, sl_lstV, sl_tup, b_lenT, b_lenV, decide_true, decide_false, Bool.not_true, Bool.not_false]) (by simp only [run_eq, List.length_cons, List.length_nil, List.map_cons, List.map_nil, List.cons_append, List.nil_append, List.replicate, List.set_cons_zero, List.set_cons_succ, x_cons, x_nil, seqC_nx, seqC_rt, x_asg, asgK_nm, asgK_sub, retS_some, retH_some, sub1_eq, sub2_eq, x_expr, exK_eq, x_ret, retK_eq, x_retn, x_iff, iffK_t, iffK_f, x_fo, x_pas, x_par, runK_nx, runK_rt, bindE_some, bindL_some, bindO_some, bindI_some, bindB_some, liftB_some, retV_some, asB_bl, bin1_eq, e_bin, cmpK_eq, cmp1_eq, e_cmp, cmpR_t, cmpR_f, cmp2a_eq, e_cmp2, cmpR3_t, cmpR3_f, cmp3a_eq, e_cmp3, e_and, e_or, andK_t, andK_f, orK_t, orK_f, bOut_eq, notK_eq, e_not, negK_int, e_neg, iteK_t, iteK_f, e_ite, tupK2_eq, e_tup, lstK_eq, e_lst, e_dct0, ixK_eq, ix1_eq, e_ix, sl1_eq, sl2_eq, e_sl, e_rev, o_no, o_ex, oK_int, e_call, e_bi, e_me, s_nil, s_cons, consA_eq, consB_eq, e_lit, e_glob, e_var0, e_varS, e_comp, i_range1, i_range2, r2a_eq, i_val, vK_tup, vK_str, t_lit, t_cmp, t_cmp2, t_cmp3, t_call, t_bi, t_var, t_and, t_or, t_not, andT_t, andT_f, orT_t, orT_f, notT_eq, v_add, v_sub, c_lt, c_le, c_gt, c_ge, c_eqI, c_neI, c_eqS, c_neS, c_isN, c_isnotN, c_isB, c_isnotB, x_tup, x_lstV, sl_lstV, sl_tup, b_lenT, b_lenV, decide_true, decide_false, Bool.not_true, Bool.not_false])
  cases s
  · simp only [b18, n18, Dd.cv, Dd.one, run_eq, List.length_cons, List.length_nil, List.map_cons, List.map_nil, List.replicate, List.cons_append, List.nil_append, Nat.reduceSub, Nat.reduceAdd, x_cons, x_asg, e_var0, bindE_some, asgK_tupS, setN_cons, setN_nil, tupS_some, seqC_nx, List.set_cons_succ, List.set_cons_zero, x_iff, t_cmp, e_cmp, e_varS, cmp1_eq, e_lit, cmpK_eq, c_eqS, kd_send, liftB_some, asB_bl, bindB_some, iffK_f, iffK_t, x_nil, x_ret, retK_eq, seqC_rt, runK_rt, e2, Bool.false_eq_true, if_false]
  · simp only [b18, n18, Dd.cv, Dd.one, run_eq, List.length_cons, List.length_nil, List.map_cons, List.map_nil, List.replicate, List.cons_append, List.nil_append, Nat.reduceSub, Nat.reduceAdd, x_cons, x_asg, e_var0, bindE_some, asgK_tupS, setN_cons, setN_nil, tupS_some, seqC_nx, List.set_cons_succ, List.set_cons_zero, x_iff, t_cmp, e_cmp, e_varS, cmp1_eq, e_lit, cmpK_eq, c_eqS, kd_send, liftB_some, asB_bl, bindB_some, iffK_f, iffK_t, x_nil, x_ret, retK_eq, seqC_rt, runK_rt, e1, if_true]
theorem run_lawpart {d : Dd} (hd : d.ok) : runC F W n24.length b24 [d.cv] h = some (.str d.one, h) := run_showdeed F W hd
end
theorem at_row {ds : List Dd} {i : Nat} {d : Dd} (e : ds[i]? = some d) : atI (ds.map Dd.cv) (i : Int) = some d.cv := by
  rw [atI_nat, List.getElem?_map, e]; rfl
theorem atI_dd0 {d : Dd} : ixV d.cv (.int 0) = fun h => some (.str (kd d.s)) := by
  funext h
  simp only [Dd.cv, x_tup, at0]
/-- is_both at a place -/
def bothAt (ds : List Dd) (i : Nat) : Bool := match ds[i]?, ds[i + 1]? with
  | some d, some e => isBoth d e
  | _, _ => false
theorem cut_one {α : Type} (xs : List α) (i : Nat) : cut xs (some ((i : Int) + 1)) (some ((i : Int) + 2)) = match xs[i + 1]? with | some x => [x] | none => [] := by
  have := cut_fromto xs (i + 1) (i + 2)
  rw [show ((i : Int) + 1) = ((i + 1 : Nat) : Int) by omega, show ((i : Int) + 2) = ((i + 2 : Nat) : Int) by omega, this, List.drop_take]
  rw [show i + 2 - (i + 1) = 1 by omega]
  cases e : xs[i + 1]? with
  | none => rw [List.drop_eq_nil_of_le (List.getElem?_eq_none_iff.mp e)]; rfl
  | some x =>
    obtain ⟨hl, rfl⟩ := List.getElem?_eq_some_iff.mp e
    rw [List.drop_eq_getElem_cons hl]
    rfl
theorem run_both (F : Fns) (W : Nat) (h17 : ∀ (d : Dd) (h : CH), F 17 [d.cv] h = some (d.tk.cv, h)) {h : CH} {ds : List Dd} {i : Nat} (hi : i < ds.length) :
    runC F W n19.length b19 [.tup (ds.map Dd.cv), .int (i : Int)] h = some (.bl (bothAt ds i), h) := by
  have e0 : ds[i]? = some ds[i] := List.getElem?_eq_getElem hi
  have e1 := at_row e0
  have hb : bothAt ds i = match ds[i + 1]? with | some e => isBoth ds[i] e | none => false := by
    unfold bothAt
    rw [e0]
    cases ds[i + 1]? <;> rfl
  generalize ds[i] = d at e0 e1 hb
  have ex : ixV d.cv (.int 0) = fun h => some (.str (kd d.s)) := atI_dd0
  have ec : cut (ds.map Dd.cv) (some ((i : Int) + 1)) (some ((i : Int) + 2)) = ((match ds[i + 1]? with | some x => [x] | none => [] : List Dd)).map Dd.cv := by
    rw [cut_one, List.getElem?_map]
    cases ds[i + 1]? <;> rfl
  cases hs : d.s with
  | false =>
    have : bothAt ds i = false := by rw [hb]; cases ds[i + 1]? <;> simp [isBoth, hs]
    rw [this]
    simp only [b19, n19, run_eq, List.length_cons, List.length_nil, List.map_cons, List.map_nil, List.cons_append, List.nil_append, List.replicate, List.set_cons_zero, List.set_cons_succ, x_cons, x_nil, seqC_nx, seqC_rt, x_asg, asgK_nm, asgK_sub, retS_some, retH_some, sub1_eq, sub2_eq, x_expr, exK_eq, x_ret, retK_eq, x_retn, x_iff, iffK_t, iffK_f, x_fo, x_pas, x_par, runK_nx, runK_rt, bindE_some, bindL_some, bindO_some, bindI_some, bindB_some, liftB_some, retV_some, asB_bl, bin1_eq, e_bin, cmpK_eq, cmp1_eq, e_cmp, cmpR_t, cmpR_f, cmp2a_eq, e_cmp2, cmpR3_t, cmpR3_f, cmp3a_eq, e_cmp3, e_and, e_or, andK_t, andK_f, orK_t, orK_f, bOut_eq, notK_eq, e_not, negK_int, e_neg, iteK_t, iteK_f, e_ite, tupK2_eq, e_tup, lstK_eq, e_lst, e_dct0, ixK_eq, ix1_eq, e_ix, sl1_eq, sl2_eq, e_sl, e_rev, o_no, o_ex, oK_int, e_call, e_bi, e_me, s_nil, s_cons, consA_eq, consB_eq, e_lit, e_glob, e_var0, e_varS, e_comp, i_range1, i_range2, r2a_eq, i_val, vK_tup, vK_str, t_lit, t_cmp, t_cmp2, t_cmp3, t_call, t_bi, t_var, t_and, t_or, t_not, andT_t, andT_f, orT_t, orT_f, notT_eq, v_add, v_sub, c_lt, c_le, c_gt, c_ge, c_eqI, c_neI, c_eqS, c_neS, c_isN, c_isnotN, c_isB, c_isnotB, x_tup, x_lstV, sl_lstV, sl_tup, b_lenT, b_lenV, decide_true, decide_false, Bool.not_true, Bool.not_false, at0, at1, at2, at3, Nat.reduceAdd, Nat.reduceSub, Nat.reduceMul, Int.reduceAdd, Int.reduceSub, Int.reduceMul, Int.reduceNeg, Int.reduceLT, Int.reduceLE, Int.reduceToNat, Int.cast_ofNat_Int, get_at, get_at0, set_at, set_at0, v_addR, addO_ok, b_lenR, lenO_lst, x_ref, ixO_lst, sl_ref, slO_lst, set_ref, m_appR, appO_lst, b_allR, b_anyR, b_listT, vK_ref, vO_lst, me1_app, recO_lst, when_t, List.append_assoc, List.length_append, List.getElem?_cons_zero, List.getElem?_cons_succ, Nat.zero_add, lim_big, lim_lt, Nat.reduceLeDiff, Nat.reduceLT, e1, ex, kd_send, hs]
  | true =>
    have eq := eq_rows (h := h) (ds := (match ds[i + 1]? with | some x => [x] | none => [] : List Dd)) (es := [d.tk])
    have : bothAt ds i = decide ((match ds[i + 1]? with | some x => [x] | none => [] : List Dd) = [d.tk]) := by
      rw [hb]
      cases ds[i + 1]? with
      | none => simp
      | some e => simp [isBoth, hs]
    rw [← this] at eq
    simp only [b19, n19, run_eq, List.length_cons, List.length_nil, List.map_cons, List.map_nil, List.cons_append, List.nil_append, List.replicate, List.set_cons_zero, List.set_cons_succ, x_cons, x_nil, seqC_nx, seqC_rt, x_asg, asgK_nm, asgK_sub, retS_some, retH_some, sub1_eq, sub2_eq, x_expr, exK_eq, x_ret, retK_eq, x_retn, x_iff, iffK_t, iffK_f, x_fo, x_pas, x_par, runK_nx, runK_rt, bindE_some, bindL_some, bindO_some, bindI_some, bindB_some, liftB_some, retV_some, asB_bl, bin1_eq, e_bin, cmpK_eq, cmp1_eq, e_cmp, cmpR_t, cmpR_f, cmp2a_eq, e_cmp2, cmpR3_t, cmpR3_f, cmp3a_eq, e_cmp3, e_and, e_or, andK_t, andK_f, orK_t, orK_f, bOut_eq, notK_eq, e_not, negK_int, e_neg, iteK_t, iteK_f, e_ite, tupK2_eq, e_tup, lstK_eq, e_lst, e_dct0, ixK_eq, ix1_eq, e_ix, sl1_eq, sl2_eq, e_sl, e_rev, o_no, o_ex, oK_int, e_call, e_bi, e_me, s_nil, s_cons, consA_eq, consB_eq, e_lit, e_glob, e_var0, e_varS, e_comp, i_range1, i_range2, r2a_eq, i_val, vK_tup, vK_str, t_lit, t_cmp, t_cmp2, t_cmp3, t_call, t_bi, t_var, t_and, t_or, t_not, andT_t, andT_f, orT_t, orT_f, notT_eq, v_add, v_sub, c_lt, c_le, c_gt, c_ge, c_eqI, c_neI, c_eqS, c_neS, c_isN, c_isnotN, c_isB, c_isnotB, x_tup, x_lstV, sl_lstV, sl_tup, b_lenT, b_lenV, decide_true, decide_false, Bool.not_true, Bool.not_false, at0, at1, at2, at3, Nat.reduceAdd, Nat.reduceSub, Nat.reduceMul, Int.reduceAdd, Int.reduceSub, Int.reduceMul, Int.reduceNeg, Int.reduceLT, Int.reduceLE, Int.reduceToNat, Int.cast_ofNat_Int, get_at, get_at0, set_at, set_at0, v_addR, addO_ok, b_lenR, lenO_lst, x_ref, ixO_lst, sl_ref, slO_lst, set_ref, m_appR, appO_lst, b_allR, b_anyR, b_listT, vK_ref, vO_lst, me1_app, recO_lst, when_t, List.append_assoc, List.length_append, List.getElem?_cons_zero, List.getElem?_cons_succ, Nat.zero_add, lim_big, lim_lt, Nat.reduceLeDiff, Nat.reduceLT, e1, ex, kd_send, hs, ec, h17, c_eq eq]
    simp only [List.map_cons, List.map_nil] at eq
    simp only [run_eq, List.length_cons, List.length_nil, List.map_cons, List.map_nil, List.cons_append, List.nil_append, List.replicate, List.set_cons_zero, List.set_cons_succ, x_cons, x_nil, seqC_nx, seqC_rt, x_asg, asgK_nm, asgK_sub, retS_some, retH_some, sub1_eq, sub2_eq, x_expr, exK_eq, x_ret, retK_eq, x_retn, x_iff, iffK_t, iffK_f, x_fo, x_pas, x_par, runK_nx, runK_rt, bindE_some, bindL_some, bindO_some, bindI_some, bindB_some, liftB_some, retV_some, asB_bl, bin1_eq, e_bin, cmpK_eq, cmp1_eq, e_cmp, cmpR_t, cmpR_f, cmp2a_eq, e_cmp2, cmpR3_t, cmpR3_f, cmp3a_eq, e_cmp3, e_and, e_or, andK_t, andK_f, orK_t, orK_f, bOut_eq, notK_eq, e_not, negK_int, e_neg, iteK_t, iteK_f, e_ite, tupK2_eq, e_tup, lstK_eq, e_lst, e_dct0, ixK_eq, ix1_eq, e_ix, sl1_eq, sl2_eq, e_sl, e_rev, o_no, o_ex, oK_int, e_call, e_bi, e_me, s_nil, s_cons, consA_eq, consB_eq, e_lit, e_glob, e_var0, e_varS, e_comp, i_range1, i_range2, r2a_eq, i_val, vK_tup, vK_str, t_lit, t_cmp, t_cmp2, t_cmp3, t_call, t_bi, t_var, t_and, t_or, t_not, andT_t, andT_f, orT_t, orT_f, notT_eq, v_add, v_sub, c_lt, c_le, c_gt, c_ge, c_eqI, c_neI, c_eqS, c_neS, c_isN, c_isnotN, c_isB, c_isnotB, x_tup, x_lstV, sl_lstV, sl_tup, b_lenT, b_lenV, decide_true, decide_false, Bool.not_true, Bool.not_false, at0, at1, at2, at3, Nat.reduceAdd, Nat.reduceSub, Nat.reduceMul, Int.reduceAdd, Int.reduceSub, Int.reduceMul, Int.reduceNeg, Int.reduceLT, Int.reduceLE, Int.reduceToNat, Int.cast_ofNat_Int, get_at, get_at0, set_at, set_at0, v_addR, addO_ok, b_lenR, lenO_lst, x_ref, ixO_lst, sl_ref, slO_lst, set_ref, m_appR, appO_lst, b_allR, b_anyR, b_listT, vK_ref, vO_lst, me1_app, recO_lst, when_t, List.append_assoc, List.length_append, List.getElem?_cons_zero, List.getElem?_cons_succ, Nat.zero_add, lim_big, lim_lt, Nat.reduceLeDiff, Nat.reduceLT, c_eq eq]
end TH

namespace TH
open PySem
/-! ### a row shown -/
theorem parts_len : ∀ ds : List Dd, (parts ds).length ≤ ds.length
  | [] => by simp [parts]
  | [d] => by simp [parts]
  | d :: e :: r => by
    have h1 := parts_len r
    have h2 := parts_len (e :: r)
    rw [parts]
    split
    · simp; omega
    · simp at h2 ⊢; omega
theorem one_len {d : Dd} (h : d.ok) : d.one.length ≤ 26 := by
  obtain ⟨l1, l2, l3⟩ := d.len h
  unfold Dd.one
  split <;> simp <;> omega
theorem two_len {d : Dd} (h : d.ok) : d.two.length ≤ 26 := by
  obtain ⟨l1, l2, l3⟩ := d.len h
  unfold Dd.two
  simp; omega
theorem parts_each {P : List Nat → Prop} (h1 : ∀ d : Dd, d.ok → P d.one) (h2 : ∀ d : Dd, d.ok → P d.two) : ∀ ds : List Dd, (∀ d ∈ ds, d.ok) → ∀ p ∈ parts ds, P p
  | [], _, p, hp => by simp [parts] at hp
  | [d], hd, p, hp => by
    simp [parts] at hp
    rw [hp]; exact h1 d (hd d (by simp))
  | d :: e :: r, hd, p, hp => by
    rw [parts] at hp
    have i1 := parts_each h1 h2 r fun x hx => hd x (by simp [hx])
    have i2 := parts_each h1 h2 (e :: r) fun x hx => hd x (List.mem_cons_of_mem _ hx)
    split at hp
    · rcases List.mem_cons.mp hp with rfl | hp
      · exact h2 d (hd d (by simp))
      · exact i1 p hp
    · rcases List.mem_cons.mp hp with rfl | hp
      · exact h1 d (hd d (by simp))
      · exact i2 p hp
theorem joinS_le {t : List Nat} {n : Nat} : ∀ ps : List (List Nat), (∀ p ∈ ps, p.length ≤ n) → (joinS t ps).length ≤ ps.length * (n + t.length)
  | [], _ => by simp [joinS]
  | [p], h => by
    have := h p (by simp)
    simp [joinS]; omega
  | p :: q :: r, h => by
    have h1 := h p (by simp)
    have h2 := joinS_le (t := t) (q :: r) fun x hx => h x (List.mem_cons_of_mem _ hx)
    rw [joinS]
    simp only [List.length_append, List.length_cons] at h2 ⊢
    rw [Nat.succ_mul (r.length + 1)]
    omega
def textOf (ds : List Dd) : List Nat := if ds = [] then [45] else joinS [32] (parts ds)
def shTest : CE := (.cmp .lt (.var 2) (.bi .len (.cons (.var 0) .nil)))
def shBody : CSs := (.cons (.iff (.call 19 (.cons (.var 0) (.cons (.var 2) .nil))) (.cons (.expr (.me .append (.var 1) (.cons (.bin .add (.bin .add (.bin .add (.bin .add (.ix (.ix (.var 0) (.var 2)) (.lit (.int 1))) (.lit (.str [62]))) (.ix (.ix (.var 0) (.var 2)) (.lit (.int 2)))) (.lit (.str [58]))) (.ix (.ix (.var 0) (.var 2)) (.lit (.int 3)))) .nil))) (.cons (.asg (.nm 2) (.bin .add (.var 2) (.lit (.int 2)))) .nil)) (.cons (.expr (.me .append (.var 1) (.cons (.call 18 (.cons (.ix (.var 0) (.var 2)) .nil)) .nil))) (.cons (.asg (.nm 2) (.bin .add (.var 2) (.lit (.int 1)))) .nil))) .nil)
theorem parts_at {ds : List Dd} {i : Nat} {d : Dd} (e : ds[i]? = some d) : parts (ds.drop i) = if bothAt ds i = true then d.two :: parts (ds.drop (i + 2)) else d.one :: parts (ds.drop (i + 1)) := by
  obtain ⟨hl, rfl⟩ := List.getElem?_eq_some_iff.mp e
  rw [List.drop_eq_getElem_cons hl]
  unfold bothAt
  rw [e]
  cases e2 : ds[i + 1]? with
  | none =>
    rw [List.drop_eq_nil_of_le (List.getElem?_eq_none_iff.mp e2)]
    simp [parts]
  | some f =>
    obtain ⟨hl2, rfl⟩ := List.getElem?_eq_some_iff.mp e2
    rw [List.drop_eq_getElem_cons hl2, parts]
theorem len_nat {a b : Nat} : decide ((a : Int) < (b : Int)) = decide (a < b) := decide_eq_decide.mpr (by omega)
theorem run_show (F : Fns) (W : Nat) (hW : 2000 < W) (h18 : ∀ (d : Dd) (h : CH), d.ok → F 18 [d.cv] h = some (.str d.one, h)) (h19 : ∀ (ds : List Dd) (i : Nat) (h : CH), i < ds.length → F 19 [.tup (ds.map Dd.cv), .int (i : Int)] h = some (.bl (bothAt ds i), h))
    {h : CH} {ds : List Dd} (hd : ∀ d ∈ ds, d.ok) (hl : ds.length ≤ 1000) : ∃ h', runC F W n20.length b20 [.tup (ds.map Dd.cv)] h = some (.str (textOf ds), h') ∧ Off [] h h' := by
  have eq := eq_rows (h := h) (ds := ds) (es := [])
  by_cases hn : ds = []
  · subst hn
    refine ⟨h, ?_, .refl _ _⟩
    simp only [List.map_nil] at eq ⊢
    simp only [b20, n20, run_eq, List.length_cons, List.length_nil, List.map_cons, List.map_nil, List.cons_append, List.nil_append, List.replicate, List.set_cons_zero, List.set_cons_succ, x_cons, x_nil, seqC_nx, seqC_rt, x_asg, asgK_nm, asgK_sub, retS_some, retH_some, sub1_eq, sub2_eq, x_expr, exK_eq, x_ret, retK_eq, x_retn, x_iff, iffK_t, iffK_f, x_fo, x_pas, x_par, runK_nx, runK_rt, bindE_some, bindL_some, bindO_some, bindI_some, bindB_some, liftB_some, retV_some, asB_bl, bin1_eq, e_bin, cmpK_eq, cmp1_eq, e_cmp, cmpR_t, cmpR_f, cmp2a_eq, e_cmp2, cmpR3_t, cmpR3_f, cmp3a_eq, e_cmp3, e_and, e_or, andK_t, andK_f, orK_t, orK_f, bOut_eq, notK_eq, e_not, negK_int, e_neg, iteK_t, iteK_f, e_ite, tupK2_eq, e_tup, lstK_eq, e_lst, e_dct0, ixK_eq, ix1_eq, e_ix, sl1_eq, sl2_eq, e_sl, e_rev, o_no, o_ex, oK_int, e_call, e_bi, e_me, s_nil, s_cons, consA_eq, consB_eq, e_lit, e_glob, e_var0, e_varS, e_comp, i_range1, i_range2, r2a_eq, i_val, vK_tup, vK_str, t_lit, t_cmp, t_cmp2, t_cmp3, t_call, t_bi, t_var, t_and, t_or, t_not, andT_t, andT_f, orT_t, orT_f, notT_eq, v_add, v_sub, c_lt, c_le, c_gt, c_ge, c_eqI, c_neI, c_eqS, c_neS, c_isN, c_isnotN, c_isB, c_isnotB, x_tup, x_lstV, sl_lstV, sl_tup, b_lenT, b_lenV, decide_true, decide_false, Bool.not_true, Bool.not_false, at0, at1, at2, at3, Nat.reduceAdd, Nat.reduceSub, Nat.reduceMul, Int.reduceAdd, Int.reduceSub, Int.reduceMul, Int.reduceNeg, Int.reduceLT, Int.reduceLE, Int.reduceToNat, Int.cast_ofNat_Int, get_at, get_at0, set_at, set_at0, v_addR, addO_ok, b_lenR, lenO_lst, x_ref, ixO_lst, sl_ref, slO_lst, set_ref, m_appR, appO_lst, b_allR, b_anyR, b_listT, vK_ref, vO_lst, me1_app, recO_lst, when_t, List.append_assoc, List.length_append, List.getElem?_cons_zero, List.getElem?_cons_succ, Nat.zero_add, lim_big, lim_lt, Nat.reduceLeDiff, Nat.reduceLT, c_eq eq, textOf, if_true]
  · have eqf : decide (ds = []) = false := decide_eq_false hn
    rw [eqf] at eq
    simp only [List.map_nil] at eq
    obtain ⟨s', h', e, ps, i, es, g, o, hp⟩ := wh_inv (test := testC F shTest) (body := execCs F W shBody)
      (fun k s' h' => ∃ (ps : List (List Nat)) (i : Nat), s' = [some (.tup (ds.map Dd.cv)), some (.ref h.length), some (.int (i : Int))] ∧ h'[h.length]? = some (.lst (ps.map .str)) ∧ Off [] h h' ∧ parts ds = ps ++ parts (ds.drop i) ∧ ps.length ≤ i ∧ i ≤ ds.length + 1 ∧ k = ds.length + 1 - i)
      (fun s' h' => ∃ (ps : List (List Nat)) (i : Nat), s' = [some (.tup (ds.map Dd.cv)), some (.ref h.length), some (.int (i : Int))] ∧ h'[h.length]? = some (.lst (ps.map .str)) ∧ Off [] h h' ∧ ps = parts ds)
      (fun k s' h' ⟨ps, i, es, g, o, hp, hpl, hi, hk⟩ => by
        subst es
        by_cases hlt : i < ds.length
        · right
          have e0 : ds[i]? = some ds[i] := List.getElem?_eq_getElem hlt
          have hdi : ds[i].ok := hd _ (List.getElem_mem hlt)
          have e1 := at_row e0
          have pa := parts_at e0
          have hb := h19 ds i h' hlt
          generalize ds[i] = d at e0 hdi e1 pa
          have ht : testC F shTest [some (.tup (ds.map Dd.cv)), some (.ref h.length), some (.int (i : Int))] h' = some (true, h') := by
            simp only [shTest, run_eq, List.length_cons, List.length_nil, List.map_cons, List.map_nil, List.cons_append, List.nil_append, List.replicate, List.set_cons_zero, List.set_cons_succ, x_cons, x_nil, seqC_nx, seqC_rt, x_asg, asgK_nm, asgK_sub, retS_some, retH_some, sub1_eq, sub2_eq, x_expr, exK_eq, x_ret, retK_eq, x_retn, x_iff, iffK_t, iffK_f, x_fo, x_pas, x_par, runK_nx, runK_rt, bindE_some, bindL_some, bindO_some, bindI_some, bindB_some, liftB_some, retV_some, asB_bl, bin1_eq, e_bin, cmpK_eq, cmp1_eq, e_cmp, cmpR_t, cmpR_f, cmp2a_eq, e_cmp2, cmpR3_t, cmpR3_f, cmp3a_eq, e_cmp3, e_and, e_or, andK_t, andK_f, orK_t, orK_f, bOut_eq, notK_eq, e_not, negK_int, e_neg, iteK_t, iteK_f, e_ite, tupK2_eq, e_tup, lstK_eq, e_lst, e_dct0, ixK_eq, ix1_eq, e_ix, sl1_eq, sl2_eq, e_sl, e_rev, o_no, o_ex, oK_int, e_call, e_bi, e_me, s_nil, s_cons, consA_eq, consB_eq, e_lit, e_glob, e_var0, e_varS, e_comp, i_range1, i_range2, r2a_eq, i_val, vK_tup, vK_str, t_lit, t_cmp, t_cmp2, t_cmp3, t_call, t_bi, t_var, t_and, t_or, t_not, andT_t, andT_f, orT_t, orT_f, notT_eq, v_add, v_sub, c_lt, c_le, c_gt, c_ge, c_eqI, c_neI, c_eqS, c_neS, c_isN, c_isnotN, c_isB, c_isnotB, x_tup, x_lstV, sl_lstV, sl_tup, b_lenT, b_lenV, decide_true, decide_false, Bool.not_true, Bool.not_false, at0, at1, at2, at3, Nat.reduceAdd, Nat.reduceSub, Nat.reduceMul, Int.reduceAdd, Int.reduceSub, Int.reduceMul, Int.reduceNeg, Int.reduceLT, Int.reduceLE, Int.reduceToNat, Int.cast_ofNat_Int, get_at, get_at0, set_at, set_at0, v_addR, addO_ok, b_lenR, lenO_lst, x_ref, ixO_lst, sl_ref, slO_lst, set_ref, m_appR, appO_lst, b_allR, b_anyR, b_listT, vK_ref, vO_lst, me1_app, recO_lst, when_t, List.append_assoc, List.length_append, List.getElem?_cons_zero, List.getElem?_cons_succ, Nat.zero_add, lim_big, lim_lt, Nat.reduceLeDiff, Nat.reduceLT, List.length_map, len_nat, hlt]
          cases hB : bothAt ds i with
          | true =>
            rw [hB] at hb
            rw [hB, if_pos rfl] at pa
            obtain ⟨l1, l2, l3⟩ := d.len hdi
            have e5 := add5 (F := F) (h := h') (s := [some (.tup (ds.map Dd.cv)), some (.ref h.length), some (.int (i : Int))]) (x := .ix (.ix (.var 0) (.var 2)) (.lit (.int 1))) (y := .ix (.ix (.var 0) (.var 2)) (.lit (.int 2))) (z := .ix (.ix (.var 0) (.var 2)) (.lit (.int 3))) (m := 62) (n := 58) (a := d.a) (b := d.b) (c := d.c) (by omega) (by omega) (by omega) (by simp only [Dd.cv, run_eq, List.length_cons, List.length_nil, List.map_cons, List.map_nil, List.cons_append, List.nil_append, List.replicate, List.set_cons_zero, List.set_cons_succ, x_cons, x_nil, seqC_nx, seqC_rt, x_asg, asgK_nm, asgK_sub, retS_some, retH_some, sub1_eq, sub2_eq, x_expr, exK_eq, x_ret, retK_eq, x_retn, x_iff, iffK_t, iffK_f, x_fo, x_pas, x_par, runK_nx, runK_rt, bindE_some, bindL_some, bindO_some, bindI_some, bindB_some, liftB_some, retV_some, asB_bl, bin1_eq, e_bin, cmpK_eq, cmp1_eq, e_cmp, cmpR_t, cmpR_f, cmp2a_eq, e_cmp2, cmpR3_t, cmpR3_f, cmp3a_eq, e_cmp3, e_and, e_or, andK_t, andK_f, orK_t, orK_f, bOut_eq, notK_eq, e_not, negK_int, e_neg, iteK_t, iteK_f, e_ite, tupK2_eq, e_tup, lstK_eq, e_lst, e_dct0, ixK_eq, ix1_eq, e_ix, sl1_eq, sl2_eq, e_sl, e_rev, o_no, o_ex, oK_int, e_call, e_bi, e_me, s_nil, s_cons, consA_eq, consB_eq, e_lit, e_glob, e_var0, e_varS, e_comp, i_range1, i_range2, r2a_eq, i_val, vK_tup, vK_str, t_lit, t_cmp, t_cmp2, t_cmp3, t_call, t_bi, t_var, t_and, t_or, t_not, andT_t, andT_f, orT_t, orT_f, notT_eq, v_add, v_sub, c_lt, c_le, c_gt, c_ge, c_eqI, c_neI, c_eqS, c_neS, c_isN, c_isnotN, c_isB, c_isnotB, x_tup, x_lstV, sl_lstV, sl_tup, b_lenT, b_lenV, decide_true, decide_false, Bool.not_true, Bool.not_false, at0, at1, at2, at3, Nat.reduceAdd, Nat.reduceSub, Nat.reduceMul, Int.reduceAdd, Int.reduceSub, Int.reduceMul, Int.reduceNeg, Int.reduceLT, Int.reduceLE, Int.reduceToNat, Int.cast_ofNat_Int, get_at, get_at0, set_at, set_at0, v_addR, addO_ok, b_lenR, lenO_lst, x_ref, ixO_lst, sl_ref, slO_lst, set_ref, m_appR, appO_lst, b_allR, b_anyR, b_listT, vK_ref, vO_lst, me1_app, recO_lst, when_t, List.append_assoc, List.length_append, List.getElem?_cons_zero, List.getElem?_cons_succ, Nat.zero_add, lim_big, lim_lt, Nat.reduceLeDiff, Nat.reduceLT, e1]) (by simp only [Dd.cv, run_eq, List.length_cons, List.length_nil, List.map_cons, List.map_nil, List.cons_append, List.nil_append, List.replicate, List.set_cons_zero, List.set_cons_succ, x_cons, x_nil, seqC_nx, seqC_rt, x_asg, asgK_nm, asgK_sub, retS_some, retH_some, sub1_eq, sub2_eq, x_expr, exK_eq, x_ret, retK_eq, x_retn, x_iff, iffK_t, iffK_f, x_fo, x_pas, x_par, runK_nx, runK_rt, bindE_some, bindL_some, bindO_some, bindI_some, bindB_some, liftB_some, retV_some, asB_bl, bin1_eq, e_bin, cmpK_eq, cmp1_eq, e_cmp, cmpR_t, cmpR_f, cmp2a_eq, e_cmp2, cmpR3_t, cmpR3_f, cmp3a_eq, e_cmp3, e_and, e_or, andK_t, andK_f, orK_t, orK_f, bOut_eq, notK_eq, e_not, negK_int, e_neg, iteK_t, iteK_f, e_ite, tupK2_eq, e_tup, lstK_eq, e_lst, e_dct0, ixK_eq, ix1_eq, e_ix, sl1_eq, sl2_eq, e_sl, e_rev, o_no, o_ex, oK_int, e_call, e_bi, e_me, s_nil, s_cons, consA_eq, consB_eq, e_lit, e_glob, e_var0, e_varS, e_comp, i_range1, i_range2, r2a_eq, i_val, vK_tup, vK_str, t_lit, t_cmp, t_cmp2, t_cmp3, t_call, t_bi, t_var, t_and, t_or, t_not, andT_t, andT_f, orT_t, orT_f, notT_eq, v_add, v_sub, c_lt, c_le, c_gt, c_ge, c_eqI, c_neI, c_eqS, c_neS, c_isN, c_isnotN, c_isB, c_isnotB, x_tup, x_lstV, sl_lstV, sl_tup, b_lenT, b_lenV, decide_true, decide_false, Bool.not_true, Bool.not_false, at0, at1, at2, at3, Nat.reduceAdd, Nat.reduceSub, Nat.reduceMul, Int.reduceAdd, Int.reduceSub, Int.reduceMul, Int.reduceNeg, Int.reduceLT, Int.reduceLE, Int.reduceToNat, Int.cast_ofNat_Int, get_at, get_at0, set_at, set_at0, v_addR, addO_ok, b_lenR, lenO_lst, x_ref, ixO_lst, sl_ref, slO_lst, set_ref, m_appR, appO_lst, b_allR, b_anyR, b_listT, vK_ref, vO_lst, me1_app, recO_lst, when_t, List.append_assoc, List.length_append, List.getElem?_cons_zero, List.getElem?_cons_succ, Nat.zero_add, lim_big, lim_lt, Nat.reduceLeDiff, Nat.reduceLT, e1]) (by simp only [Dd.cv, run_eq, List.length_cons, List.length_nil, List.map_cons, List.map_nil, List.cons_append, List.nil_append, List.replicate, List.set_cons_zero, List.set_cons_succ, x_cons, x_nil, seqC_nx, seqC_rt, x_asg, asgK_nm, asgK_sub, retS_some, retH_some, sub1_eq, sub2_eq, x_expr, exK_eq, x_ret, retK_eq, x_retn, x_iff, iffK_t, iffK_f, x_fo, x_pas, x_par, runK_nx, runK_rt, bindE_some, bindL_some, bindO_some, bindI_some, bindB_some, liftB_some, retV_some, asB_bl, bin1_eq, e_bin, cmpK_eq, cmp1_eq, e_cmp, cmpR_t, cmpR_f, cmp2a_eq, e_cmp2, cmpR3_t, cmpR3_f, cmp3a_eq, e_cmp3, e_and, e_or, andK_t, andK_f, orK_t, orK_f, bOut_eq, notK_eq, e_not, negK_int, e_neg, iteK_t, iteK_f, e_ite, tupK2_eq, e_tup, lstK_eq, e_lst, e_dct0, ixK_eq, ix1_eq, e_ix, sl1_eq, sl2_eq, e_sl, e_rev, o_no, o_ex, oK_int, e_call, e_bi, e_me, s_nil, s_cons, consA_eq, consB_eq, e_lit, e_glob, e_var0, e_varS, e_comp, i_range1, i_range2, r2a_eq, i_val, vK_tup, vK_str, t_lit, t_cmp, t_cmp2, t_cmp3, t_call, t_bi, t_var, t_and, t_or, t_not, andT_t, andT_f, orT_t, orT_f, notT_eq, v_add, v_sub, c_lt, c_le, c_gt, c_ge, c_eqI, c_neI, c_eqS, c_neS, c_isN, c_isnotN, c_isB, c_isnotB, x_tup, x_lstV, sl_lstV, sl_tup, b_lenT, b_lenV, decide_true, decide_false, Bool.not_true, Bool.not_false, at0, at1, at2, at3, Nat.reduceAdd, Nat.reduceSub, Nat.reduceMul, Int.reduceAdd, Int.reduceSub, Int.reduceMul, Int.reduceNeg, Int.reduceLT, Int.reduceLE, Int.reduceToNat, Int.cast_ofNat_Int, get_at, get_at0, set_at, set_at0, v_addR, addO_ok, b_lenR, lenO_lst, x_ref, ixO_lst, sl_ref, slO_lst, set_ref, m_appR, appO_lst, b_allR, b_anyR, b_listT, vK_ref, vO_lst, me1_app, recO_lst, when_t, List.append_assoc, List.length_append, List.getElem?_cons_zero, List.getElem?_cons_succ, Nat.zero_add, lim_big, lim_lt, Nat.reduceLeDiff, Nat.reduceLT, e1])
            refine ⟨h', [some (.tup (ds.map Dd.cv)), some (.ref h.length), some (.int ((i + 2 : Nat) : Int))], h'.set h.length (.lst ((ps ++ [d.two]).map .str)), ds.length + 1 - (i + 2), ht, ?_, by omega, ps ++ [d.two], i + 2, rfl, List.getElem?_set_self (lt_of g), o.setNew (Nat.le_refl _), by rw [hp, pa]; simp, by simp; omega, ?_, rfl⟩
            · have ap := m_append (v := .str d.two) g (lim_lt (by rw [List.length_map]; omega))
              rw [Dd.two] at ap
              rw [m_appR] at ap
              simp only [List.append_assoc, List.cons_append, List.nil_append] at ap e5
              simp only [shBody, run_eq, List.length_cons, List.length_nil, List.map_cons, List.map_nil, List.cons_append, List.nil_append, List.replicate, List.set_cons_zero, List.set_cons_succ, x_cons, x_nil, seqC_nx, seqC_rt, x_asg, asgK_nm, asgK_sub, retS_some, retH_some, sub1_eq, sub2_eq, x_expr, exK_eq, x_ret, retK_eq, x_retn, x_iff, iffK_t, iffK_f, x_fo, x_pas, x_par, runK_nx, runK_rt, bindE_some, bindL_some, bindO_some, bindI_some, bindB_some, liftB_some, retV_some, asB_bl, bin1_eq, e_bin, cmpK_eq, cmp1_eq, e_cmp, cmpR_t, cmpR_f, cmp2a_eq, e_cmp2, cmpR3_t, cmpR3_f, cmp3a_eq, e_cmp3, e_and, e_or, andK_t, andK_f, orK_t, orK_f, bOut_eq, notK_eq, e_not, negK_int, e_neg, iteK_t, iteK_f, e_ite, tupK2_eq, e_tup, lstK_eq, e_lst, e_dct0, ixK_eq, ix1_eq, e_ix, sl1_eq, sl2_eq, e_sl, e_rev, o_no, o_ex, oK_int, e_call, e_bi, e_me, s_nil, s_cons, consA_eq, consB_eq, e_lit, e_glob, e_var0, e_varS, e_comp, i_range1, i_range2, r2a_eq, i_val, vK_tup, vK_str, t_lit, t_cmp, t_cmp2, t_cmp3, t_call, t_bi, t_var, t_and, t_or, t_not, andT_t, andT_f, orT_t, orT_f, notT_eq, v_add, v_sub, c_lt, c_le, c_gt, c_ge, c_eqI, c_neI, c_eqS, c_neS, c_isN, c_isnotN, c_isB, c_isnotB, x_tup, x_lstV, sl_lstV, sl_tup, b_lenT, b_lenV, decide_true, decide_false, Bool.not_true, Bool.not_false, at0, at1, at2, at3, Nat.reduceAdd, Nat.reduceSub, Nat.reduceMul, Int.reduceAdd, Int.reduceSub, Int.reduceMul, Int.reduceNeg, Int.reduceLT, Int.reduceLE, Int.reduceToNat, Int.cast_ofNat_Int, get_at, get_at0, set_at, set_at0, v_addR, addO_ok, b_lenR, lenO_lst, x_ref, ixO_lst, sl_ref, slO_lst, set_ref, m_appR, appO_lst, b_allR, b_anyR, b_listT, vK_ref, vO_lst, me1_app, recO_lst, when_t, List.append_assoc, List.length_append, List.getElem?_cons_zero, List.getElem?_cons_succ, Nat.zero_add, lim_big, lim_lt, Nat.reduceLeDiff, Nat.reduceLT, hb, me1_eq (r_append g), e5, ap, Dd.two, List.map_append, List.map_cons, List.map_nil]
              rfl
            · have : ds[i + 1]? ≠ none := fun z => by simp [bothAt, e0, z] at hB
              have : ¬ ds.length ≤ i + 1 := fun z => this (List.getElem?_eq_none_iff.mpr z)
              omega
          | false =>
            rw [hB] at hb
            rw [hB, if_neg Bool.false_ne_true] at pa
            refine ⟨h', [some (.tup (ds.map Dd.cv)), some (.ref h.length), some (.int ((i + 1 : Nat) : Int))], h'.set h.length (.lst ((ps ++ [d.one]).map .str)), ds.length + 1 - (i + 1), ht, ?_, by omega, ps ++ [d.one], i + 1, rfl, List.getElem?_set_self (lt_of g), o.setNew (Nat.le_refl _), by rw [hp, pa]; simp, by simp; omega, by omega, rfl⟩
            have ap := m_append (v := .str d.one) g (lim_lt (by rw [List.length_map]; omega))
            rw [m_appR] at ap
            simp only [shBody, run_eq, List.length_cons, List.length_nil, List.map_cons, List.map_nil, List.cons_append, List.nil_append, List.replicate, List.set_cons_zero, List.set_cons_succ, x_cons, x_nil, seqC_nx, seqC_rt, x_asg, asgK_nm, asgK_sub, retS_some, retH_some, sub1_eq, sub2_eq, x_expr, exK_eq, x_ret, retK_eq, x_retn, x_iff, iffK_t, iffK_f, x_fo, x_pas, x_par, runK_nx, runK_rt, bindE_some, bindL_some, bindO_some, bindI_some, bindB_some, liftB_some, retV_some, asB_bl, bin1_eq, e_bin, cmpK_eq, cmp1_eq, e_cmp, cmpR_t, cmpR_f, cmp2a_eq, e_cmp2, cmpR3_t, cmpR3_f, cmp3a_eq, e_cmp3, e_and, e_or, andK_t, andK_f, orK_t, orK_f, bOut_eq, notK_eq, e_not, negK_int, e_neg, iteK_t, iteK_f, e_ite, tupK2_eq, e_tup, lstK_eq, e_lst, e_dct0, ixK_eq, ix1_eq, e_ix, sl1_eq, sl2_eq, e_sl, e_rev, o_no, o_ex, oK_int, e_call, e_bi, e_me, s_nil, s_cons, consA_eq, consB_eq, e_lit, e_glob, e_var0, e_varS, e_comp, i_range1, i_range2, r2a_eq, i_val, vK_tup, vK_str, t_lit, t_cmp, t_cmp2, t_cmp3, t_call, t_bi, t_var, t_and, t_or, t_not, andT_t, andT_f, orT_t, orT_f, notT_eq, v_add, v_sub, c_lt, c_le, c_gt, c_ge, c_eqI, c_neI, c_eqS, c_neS, c_isN, c_isnotN, c_isB, c_isnotB, x_tup, x_lstV, sl_lstV, sl_tup, b_lenT, b_lenV, decide_true, decide_false, Bool.not_true, Bool.not_false, at0, at1, at2, at3, Nat.reduceAdd, Nat.reduceSub, Nat.reduceMul, Int.reduceAdd, Int.reduceSub, Int.reduceMul, Int.reduceNeg, Int.reduceLT, Int.reduceLE, Int.reduceToNat, Int.cast_ofNat_Int, get_at, get_at0, set_at, set_at0, v_addR, addO_ok, b_lenR, lenO_lst, x_ref, ixO_lst, sl_ref, slO_lst, set_ref, m_appR, appO_lst, b_allR, b_anyR, b_listT, vK_ref, vO_lst, me1_app, recO_lst, when_t, List.append_assoc, List.length_append, List.getElem?_cons_zero, List.getElem?_cons_succ, Nat.zero_add, lim_big, lim_lt, Nat.reduceLeDiff, Nat.reduceLT, hb, me1_eq (r_append g), e1, h18 d h' hdi, ap, List.map_append, List.map_cons, List.map_nil]
            rfl
        · left
          refine ⟨h', ?_, ps, i, rfl, g, o, by rw [hp, List.drop_eq_nil_of_le (by omega)]; simp [parts]⟩
          simp only [shTest, run_eq, List.length_cons, List.length_nil, List.map_cons, List.map_nil, List.cons_append, List.nil_append, List.replicate, List.set_cons_zero, List.set_cons_succ, x_cons, x_nil, seqC_nx, seqC_rt, x_asg, asgK_nm, asgK_sub, retS_some, retH_some, sub1_eq, sub2_eq, x_expr, exK_eq, x_ret, retK_eq, x_retn, x_iff, iffK_t, iffK_f, x_fo, x_pas, x_par, runK_nx, runK_rt, bindE_some, bindL_some, bindO_some, bindI_some, bindB_some, liftB_some, retV_some, asB_bl, bin1_eq, e_bin, cmpK_eq, cmp1_eq, e_cmp, cmpR_t, cmpR_f, cmp2a_eq, e_cmp2, cmpR3_t, cmpR3_f, cmp3a_eq, e_cmp3, e_and, e_or, andK_t, andK_f, orK_t, orK_f, bOut_eq, notK_eq, e_not, negK_int, e_neg, iteK_t, iteK_f, e_ite, tupK2_eq, e_tup, lstK_eq, e_lst, e_dct0, ixK_eq, ix1_eq, e_ix, sl1_eq, sl2_eq, e_sl, e_rev, o_no, o_ex, oK_int, e_call, e_bi, e_me, s_nil, s_cons, consA_eq, consB_eq, e_lit, e_glob, e_var0, e_varS, e_comp, i_range1, i_range2, r2a_eq, i_val, vK_tup, vK_str, t_lit, t_cmp, t_cmp2, t_cmp3, t_call, t_bi, t_var, t_and, t_or, t_not, andT_t, andT_f, orT_t, orT_f, notT_eq, v_add, v_sub, c_lt, c_le, c_gt, c_ge, c_eqI, c_neI, c_eqS, c_neS, c_isN, c_isnotN, c_isB, c_isnotB, x_tup, x_lstV, sl_lstV, sl_tup, b_lenT, b_lenV, decide_true, decide_false, Bool.not_true, Bool.not_false, at0, at1, at2, at3, Nat.reduceAdd, Nat.reduceSub, Nat.reduceMul, Int.reduceAdd, Int.reduceSub, Int.reduceMul, Int.reduceNeg, Int.reduceLT, Int.reduceLE, Int.reduceToNat, Int.cast_ofNat_Int, get_at, get_at0, set_at, set_at0, v_addR, addO_ok, b_lenR, lenO_lst, x_ref, ixO_lst, sl_ref, slO_lst, set_ref, m_appR, appO_lst, b_allR, b_anyR, b_listT, vK_ref, vO_lst, me1_app, recO_lst, when_t, List.append_assoc, List.length_append, List.getElem?_cons_zero, List.getElem?_cons_succ, Nat.zero_add, lim_big, lim_lt, Nat.reduceLeDiff, Nat.reduceLT, List.length_map, len_nat, hlt])
      W (ds.length + 1) [some (.tup (ds.map Dd.cv)), some (.ref h.length), some (.int ((0 : Nat) : Int))] (h ++ [.lst []])
      ⟨[], 0, rfl, get_new, Off.app _ _ _, by simp, by simp, by omega, by omega⟩ (by omega)
    subst es
    subst hp
    have lj := joinS_le (t := [32]) (n := 26) (parts ds) (parts_each (P := fun p => p.length ≤ 26) (fun d => one_len) (fun d => two_len) ds hd)
    have lp := parts_len ds
    have ej := m_joinL (t := [32]) g (lim_big (by
      have : (parts ds).length * 27 ≤ 1000 * 27 := Nat.mul_le_mul_right _ (by omega)
      simp at lj ⊢; omega))
    refine ⟨h', ?_, o⟩
    unfold shTest shBody at e
    rw [show ((0 : Nat) : Int) = 0 from rfl] at e
    simp only [b20, n20, run_eq, List.length_cons, List.length_nil, List.map_cons, List.map_nil, List.cons_append, List.nil_append, List.replicate, List.set_cons_zero, List.set_cons_succ, x_cons, x_nil, seqC_nx, seqC_rt, x_asg, asgK_nm, asgK_sub, retS_some, retH_some, sub1_eq, sub2_eq, x_expr, exK_eq, x_ret, retK_eq, x_retn, x_iff, iffK_t, iffK_f, x_fo, x_pas, x_par, runK_nx, runK_rt, bindE_some, bindL_some, bindO_some, bindI_some, bindB_some, liftB_some, retV_some, asB_bl, bin1_eq, e_bin, cmpK_eq, cmp1_eq, e_cmp, cmpR_t, cmpR_f, cmp2a_eq, e_cmp2, cmpR3_t, cmpR3_f, cmp3a_eq, e_cmp3, e_and, e_or, andK_t, andK_f, orK_t, orK_f, bOut_eq, notK_eq, e_not, negK_int, e_neg, iteK_t, iteK_f, e_ite, tupK2_eq, e_tup, lstK_eq, e_lst, e_dct0, ixK_eq, ix1_eq, e_ix, sl1_eq, sl2_eq, e_sl, e_rev, o_no, o_ex, oK_int, e_call, e_bi, e_me, s_nil, s_cons, consA_eq, consB_eq, e_lit, e_glob, e_var0, e_varS, e_comp, i_range1, i_range2, r2a_eq, i_val, vK_tup, vK_str, t_lit, t_cmp, t_cmp2, t_cmp3, t_call, t_bi, t_var, t_and, t_or, t_not, andT_t, andT_f, orT_t, orT_f, notT_eq, v_add, v_sub, c_lt, c_le, c_gt, c_ge, c_eqI, c_neI, c_eqS, c_neS, c_isN, c_isnotN, c_isB, c_isnotB, x_tup, x_lstV, sl_lstV, sl_tup, b_lenT, b_lenV, decide_true, decide_false, Bool.not_true, Bool.not_false, at0, at1, at2, at3, Nat.reduceAdd, Nat.reduceSub, Nat.reduceMul, Int.reduceAdd, Int.reduceSub, Int.reduceMul, Int.reduceNeg, Int.reduceLT, Int.reduceLE, Int.reduceToNat, Int.cast_ofNat_Int, get_at, get_at0, set_at, set_at0, v_addR, addO_ok, b_lenR, lenO_lst, x_ref, ixO_lst, sl_ref, slO_lst, set_ref, m_appR, appO_lst, b_allR, b_anyR, b_listT, vK_ref, vO_lst, me1_app, recO_lst, when_t, List.append_assoc, List.length_append, List.getElem?_cons_zero, List.getElem?_cons_succ, Nat.zero_add, lim_big, lim_lt, Nat.reduceLeDiff, Nat.reduceLT, asgK_tupS, foB_tupS, foB_nm, setN_nil, setN_cons, tupS_some, bindS_some, forL_nil, forL_cons, foK_tup, foK_str, r_part, r_split, r_join, c_eq eq, x_wh, e, me1_eq r_join, ej, textOf, hn, if_false]
end TH

namespace TH
open PySem
/-! ### texts read -/
theorem nm_free {k : List Nat} (hk : Nm k) {c : Nat} (hc : c ∉ al) : c ∉ k := fun z => hc (hk.2.2 c z)
/-- what a part tells -/
def told (two : Bool) (d : Dd) : List Dd := if two = true then [d, d.tk] else [d]
/-- the loop over the marks -/
def in21 : CSs := (.cons (.asg (.tup [5, 6, 7]) (.me .partition (.var 1) (.cons (.var 4) .nil))) (.cons (.iff (.and (.cmp .ne (.var 6) (.lit (.str []))) (.cmp .eq (.var 4) (.lit (.str [33])))) (.cons (.ret (.tup (.cons (.tup (.cons (.lit (.str [115, 101, 110, 100])) (.cons (.var 5) (.cons (.var 7) (.cons (.var 3) .nil))))) .nil))) .nil) .nil) (.cons (.iff (.and (.cmp .ne (.var 6) (.lit (.str []))) (.cmp .eq (.var 4) (.lit (.str [63])))) (.cons (.ret (.tup (.cons (.tup (.cons (.lit (.str [116, 97, 107, 101])) (.cons (.var 7) (.cons (.var 5) (.cons (.var 3) .nil))))) .nil))) .nil) .nil) (.cons (.iff (.cmp .ne (.var 6) (.lit (.str []))) (.cons (.ret (.tup (.cons (.tup (.cons (.lit (.str [115, 101, 110, 100])) (.cons (.var 5) (.cons (.var 7) (.cons (.var 3) .nil))))) (.cons (.tup (.cons (.lit (.str [116, 97, 107, 101])) (.cons (.var 5) (.cons (.var 7) (.cons (.var 3) .nil))))) .nil)))) .nil) .nil) .nil))))
theorem run_deedsin (F : Fns) (W : Nat) {h : CH} {x y z : List Nat} {m : Nat} (hm : m = 33 ∨ m = 63 ∨ m = 62) (hx : Nm x) (hy : Nm y) (hz : Nm z) :
    runC F W n21.length b21 [.str (x ++ [m] ++ y ++ [58] ++ z)] h = some (.tup (if m = 33 then [.tup [.str kSend, .str x, .str y, .str z]] else if m = 63 then [.tup [.str kTake, .str y, .str x, .str z]] else [.tup [.str kSend, .str x, .str y, .str z], .tup [.str kTake, .str x, .str y, .str z]]), h) := by
  have lx := hx.2.1
  have ly := hy.2.1
  have lz := hz.2.1
  have f : ∀ c : Nat, c ∉ al → c ∉ x ∧ c ∉ y := fun c hc => ⟨nm_free hx hc, nm_free hy hc⟩
  have f58 := f 58 (by decide)
  have e0 : x ++ [m] ++ y ++ [58] ++ z = (x ++ m :: y) ++ 58 :: z := by simp
  have p0 := m_part_at (h := h) (c := 58) (x := x ++ m :: y) (y := z) (by
    intro w
    rcases List.mem_append.mp w with w | w
    · exact f58.1 w
    · rcases List.mem_cons.mp w with w | w
      · omega
      · exact f58.2 w) (lim_big (by simp; omega))
  simp only [List.append_assoc, List.cons_append] at p0
  have no : ∀ c, c ∉ al → c ≠ m → meV .partition (.str (x ++ m :: y)) [.str [c]] h = some (.tup [.str (x ++ m :: y), .str [], .str []], h) := fun c hc hcm => m_part_no (by
    intro w
    rcases List.mem_append.mp w with w | w
    · exact (f c hc).1 w
    · rcases List.mem_cons.mp w with w | w
      · exact hcm w
      · exact (f c hc).2 w) (lim_big (by simp; omega))
  have yes : ∀ c, c ∉ al → c = m → meV .partition (.str (x ++ m :: y)) [.str [c]] h = some (.tup [.str x, .str [c], .str y], h) := fun c hc hcm => by
    subst hcm
    exact m_part_at (f c hc).1 (lim_big (by simp; omega))
  rw [e0]
  rcases hm with rfl | rfl | rfl
  · simp only [b21, n21, run_eq, List.length_cons, List.length_nil, List.map_cons, List.map_nil, List.cons_append, List.nil_append, List.replicate, List.set_cons_zero, List.set_cons_succ, x_cons, x_nil, seqC_nx, seqC_rt, x_asg, asgK_nm, asgK_sub, retS_some, retH_some, sub1_eq, sub2_eq, x_expr, exK_eq, x_ret, retK_eq, x_retn, x_iff, iffK_t, iffK_f, x_fo, x_pas, x_par, runK_nx, runK_rt, bindE_some, bindL_some, bindO_some, bindI_some, bindB_some, liftB_some, retV_some, asB_bl, bin1_eq, e_bin, cmpK_eq, cmp1_eq, e_cmp, cmpR_t, cmpR_f, cmp2a_eq, e_cmp2, cmpR3_t, cmpR3_f, cmp3a_eq, e_cmp3, e_and, e_or, andK_t, andK_f, orK_t, orK_f, bOut_eq, notK_eq, e_not, negK_int, e_neg, iteK_t, iteK_f, e_ite, tupK2_eq, e_tup, lstK_eq, e_lst, e_dct0, ixK_eq, ix1_eq, e_ix, sl1_eq, sl2_eq, e_sl, e_rev, o_no, o_ex, oK_int, e_call, e_bi, e_me, s_nil, s_cons, consA_eq, consB_eq, e_lit, e_glob, e_var0, e_varS, e_comp, i_range1, i_range2, r2a_eq, i_val, vK_tup, vK_str, t_lit, t_cmp, t_cmp2, t_cmp3, t_call, t_bi, t_var, t_and, t_or, t_not, andT_t, andT_f, orT_t, orT_f, notT_eq, v_add, v_sub, c_lt, c_le, c_gt, c_ge, c_eqI, c_neI, c_eqS, c_neS, c_isN, c_isnotN, c_isB, c_isnotB, x_tup, x_lstV, sl_lstV, sl_tup, b_lenT, b_lenV, decide_true, decide_false, Bool.not_true, Bool.not_false, at0, at1, at2, at3, Nat.reduceAdd, Nat.reduceSub, Nat.reduceMul, Int.reduceAdd, Int.reduceSub, Int.reduceMul, Int.reduceNeg, Int.reduceLT, Int.reduceLE, Int.reduceToNat, Int.cast_ofNat_Int, get_at, get_at0, set_at, set_at0, v_addR, addO_ok, b_lenR, lenO_lst, x_ref, ixO_lst, sl_ref, slO_lst, set_ref, m_appR, appO_lst, b_allR, b_anyR, b_listT, vK_ref, vO_lst, me1_app, recO_lst, when_t, List.append_assoc, List.length_append, List.getElem?_cons_zero, List.getElem?_cons_succ, Nat.zero_add, lim_big, lim_lt, Nat.reduceLeDiff, Nat.reduceLT, asgK_tupS, foB_tupS, foB_nm, setN_nil, setN_cons, tupS_some, bindS_some, forL_nil, forL_cons, foK_tup, foK_str, r_part, r_split, r_join, me1_eq r_part, p0, c_eqS, c_neS, yes 33 (by decide) rfl, reduceCtorEq, List.cons.injEq, and_true, Nat.reduceEqDiff, kSend, kTake, List.map_cons, List.map_nil, Bool.not_true, if_true]
  · simp only [b21, n21, run_eq, List.length_cons, List.length_nil, List.map_cons, List.map_nil, List.cons_append, List.nil_append, List.replicate, List.set_cons_zero, List.set_cons_succ, x_cons, x_nil, seqC_nx, seqC_rt, x_asg, asgK_nm, asgK_sub, retS_some, retH_some, sub1_eq, sub2_eq, x_expr, exK_eq, x_ret, retK_eq, x_retn, x_iff, iffK_t, iffK_f, x_fo, x_pas, x_par, runK_nx, runK_rt, bindE_some, bindL_some, bindO_some, bindI_some, bindB_some, liftB_some, retV_some, asB_bl, bin1_eq, e_bin, cmpK_eq, cmp1_eq, e_cmp, cmpR_t, cmpR_f, cmp2a_eq, e_cmp2, cmpR3_t, cmpR3_f, cmp3a_eq, e_cmp3, e_and, e_or, andK_t, andK_f, orK_t, orK_f, bOut_eq, notK_eq, e_not, negK_int, e_neg, iteK_t, iteK_f, e_ite, tupK2_eq, e_tup, lstK_eq, e_lst, e_dct0, ixK_eq, ix1_eq, e_ix, sl1_eq, sl2_eq, e_sl, e_rev, o_no, o_ex, oK_int, e_call, e_bi, e_me, s_nil, s_cons, consA_eq, consB_eq, e_lit, e_glob, e_var0, e_varS, e_comp, i_range1, i_range2, r2a_eq, i_val, vK_tup, vK_str, t_lit, t_cmp, t_cmp2, t_cmp3, t_call, t_bi, t_var, t_and, t_or, t_not, andT_t, andT_f, orT_t, orT_f, notT_eq, v_add, v_sub, c_lt, c_le, c_gt, c_ge, c_eqI, c_neI, c_eqS, c_neS, c_isN, c_isnotN, c_isB, c_isnotB, x_tup, x_lstV, sl_lstV, sl_tup, b_lenT, b_lenV, decide_true, decide_false, Bool.not_true, Bool.not_false, at0, at1, at2, at3, Nat.reduceAdd, Nat.reduceSub, Nat.reduceMul, Int.reduceAdd, Int.reduceSub, Int.reduceMul, Int.reduceNeg, Int.reduceLT, Int.reduceLE, Int.reduceToNat, Int.cast_ofNat_Int, get_at, get_at0, set_at, set_at0, v_addR, addO_ok, b_lenR, lenO_lst, x_ref, ixO_lst, sl_ref, slO_lst, set_ref, m_appR, appO_lst, b_allR, b_anyR, b_listT, vK_ref, vO_lst, me1_app, recO_lst, when_t, List.append_assoc, List.length_append, List.getElem?_cons_zero, List.getElem?_cons_succ, Nat.zero_add, lim_big, lim_lt, Nat.reduceLeDiff, Nat.reduceLT, asgK_tupS, foB_tupS, foB_nm, setN_nil, setN_cons, tupS_some, bindS_some, forL_nil, forL_cons, foK_tup, foK_str, r_part, r_split, r_join, me1_eq r_part, p0, c_eqS, c_neS, no 33 (by decide) (by decide), yes 63 (by decide) rfl, reduceCtorEq, List.cons.injEq, and_true, Nat.reduceEqDiff, kSend, kTake, List.map_cons, List.map_nil, if_true, if_false]
  · simp only [b21, n21, run_eq, List.length_cons, List.length_nil, List.map_cons, List.map_nil, List.cons_append, List.nil_append, List.replicate, List.set_cons_zero, List.set_cons_succ, x_cons, x_nil, seqC_nx, seqC_rt, x_asg, asgK_nm, asgK_sub, retS_some, retH_some, sub1_eq, sub2_eq, x_expr, exK_eq, x_ret, retK_eq, x_retn, x_iff, iffK_t, iffK_f, x_fo, x_pas, x_par, runK_nx, runK_rt, bindE_some, bindL_some, bindO_some, bindI_some, bindB_some, liftB_some, retV_some, asB_bl, bin1_eq, e_bin, cmpK_eq, cmp1_eq, e_cmp, cmpR_t, cmpR_f, cmp2a_eq, e_cmp2, cmpR3_t, cmpR3_f, cmp3a_eq, e_cmp3, e_and, e_or, andK_t, andK_f, orK_t, orK_f, bOut_eq, notK_eq, e_not, negK_int, e_neg, iteK_t, iteK_f, e_ite, tupK2_eq, e_tup, lstK_eq, e_lst, e_dct0, ixK_eq, ix1_eq, e_ix, sl1_eq, sl2_eq, e_sl, e_rev, o_no, o_ex, oK_int, e_call, e_bi, e_me, s_nil, s_cons, consA_eq, consB_eq, e_lit, e_glob, e_var0, e_varS, e_comp, i_range1, i_range2, r2a_eq, i_val, vK_tup, vK_str, t_lit, t_cmp, t_cmp2, t_cmp3, t_call, t_bi, t_var, t_and, t_or, t_not, andT_t, andT_f, orT_t, orT_f, notT_eq, v_add, v_sub, c_lt, c_le, c_gt, c_ge, c_eqI, c_neI, c_eqS, c_neS, c_isN, c_isnotN, c_isB, c_isnotB, x_tup, x_lstV, sl_lstV, sl_tup, b_lenT, b_lenV, decide_true, decide_false, Bool.not_true, Bool.not_false, at0, at1, at2, at3, Nat.reduceAdd, Nat.reduceSub, Nat.reduceMul, Int.reduceAdd, Int.reduceSub, Int.reduceMul, Int.reduceNeg, Int.reduceLT, Int.reduceLE, Int.reduceToNat, Int.cast_ofNat_Int, get_at, get_at0, set_at, set_at0, v_addR, addO_ok, b_lenR, lenO_lst, x_ref, ixO_lst, sl_ref, slO_lst, set_ref, m_appR, appO_lst, b_allR, b_anyR, b_listT, vK_ref, vO_lst, me1_app, recO_lst, when_t, List.append_assoc, List.length_append, List.getElem?_cons_zero, List.getElem?_cons_succ, Nat.zero_add, lim_big, lim_lt, Nat.reduceLeDiff, Nat.reduceLT, asgK_tupS, foB_tupS, foB_nm, setN_nil, setN_cons, tupS_some, bindS_some, forL_nil, forL_cons, foK_tup, foK_str, r_part, r_split, r_join, me1_eq r_part, p0, c_eqS, c_neS, no 33 (by decide) (by decide), no 63 (by decide) (by decide), yes 62 (by decide) rfl, reduceCtorEq, List.cons.injEq, and_true, Nat.reduceEqDiff, kSend, kTake, List.map_cons, List.map_nil, if_true, if_false]
end TH

namespace TH
open PySem
/-! ### parts and what they tell -/
abbrev Pq := Bool × Dd
def Pq.text (q : Pq) : List Nat := if q.1 = true then q.2.two else q.2.one
def Pq.rows (q : Pq) : List Dd := if q.1 = true then [q.2, q.2.tk] else [q.2]
def Pq.ok (q : Pq) : Prop := q.2.ok ∧ (q.1 = true → q.2.s = true)
def partsQ : List Dd → List Pq
  | d :: e :: r => if isBoth d e = true then (true, d) :: partsQ r else (false, d) :: partsQ (e :: r)
  | [d] => [(false, d)]
  | [] => []
theorem isBoth_eq {d e : Dd} (h : isBoth d e = true) : d.s = true ∧ e = d.tk := by
  simpa [isBoth] using h
theorem partsQ_text : ∀ ds : List Dd, (partsQ ds).map Pq.text = parts ds
  | [] => rfl
  | [d] => rfl
  | d :: e :: r => by
    rw [partsQ, parts]
    split
    · rw [List.map_cons, partsQ_text r]; rfl
    · rw [List.map_cons, partsQ_text (e :: r)]; rfl
theorem partsQ_rows : ∀ ds : List Dd, ((partsQ ds).map Pq.rows).flatten = ds
  | [] => rfl
  | [d] => rfl
  | d :: e :: r => by
    rw [partsQ]
    split
    · rename_i h
      rw [List.map_cons, List.flatten_cons, partsQ_rows r, (isBoth_eq h).2]; rfl
    · rw [List.map_cons, List.flatten_cons, partsQ_rows (e :: r)]; rfl
theorem partsQ_ok : ∀ ds : List Dd, (∀ d ∈ ds, d.ok) → ∀ q ∈ partsQ ds, Pq.ok q
  | [], _, q, hq => by simp [partsQ] at hq
  | [d], hd, q, hq => by
    simp [partsQ] at hq
    rw [hq]; exact ⟨hd d (by simp), fun e => by cases e⟩
  | d :: e :: r, hd, q, hq => by
    rw [partsQ] at hq
    have i1 := partsQ_ok r fun x hx => hd x (by simp [hx])
    have i2 := partsQ_ok (e :: r) fun x hx => hd x (List.mem_cons_of_mem _ hx)
    split at hq
    · rename_i h
      rcases List.mem_cons.mp hq with rfl | hq
      · exact ⟨hd d (by simp), fun _ => (isBoth_eq h).1⟩
      · exact i1 q hq
    · rcases List.mem_cons.mp hq with rfl | hq
      · exact ⟨hd d (by simp), fun e => by cases e⟩
      · exact i2 q hq
theorem partsQ_len : ∀ ds : List Dd, (partsQ ds).length ≤ ds.length := fun ds => by
  rw [← List.length_map (f := Pq.text), partsQ_text]; exact parts_len ds
theorem Pq.mem {q : Pq} (h : Pq.ok q) (c : Nat) : c ∈ Pq.text q → c ∈ al ∨ c = 33 ∨ c = 63 ∨ c = 62 ∨ c = 58 := by
  obtain ⟨⟨ha, hb, hc, hab⟩, _⟩ := h
  unfold Pq.text Dd.one Dd.two
  intro z
  have := ha.2.2 c
  have := hb.2.2 c
  have := hc.2.2 c
  split at z
  · simp at z; grind
  · split at z
    · simp at z; grind
    · simp at z; grind
theorem Pq.colon {q : Pq} : 58 ∈ Pq.text q := by
  unfold Pq.text Dd.one Dd.two
  split
  · simp
  · split <;> simp
theorem Pq.len {q : Pq} (h : Pq.ok q) : (Pq.text q).length ≤ 26 := by
  unfold Pq.text
  split
  · exact two_len h.1
  · exact one_len h.1
theorem rd_part (F : Fns) (W : Nat) {h : CH} {q : Pq} (hq : Pq.ok q) : runC F W n21.length b21 [.str (Pq.text q)] h = some (.tup ((Pq.rows q).map Dd.cv), h) := by
  obtain ⟨⟨ha, hb, hc, hab⟩, hs⟩ := hq
  obtain ⟨two, ⟨s, a, b, c⟩⟩ := q
  cases two with
  | true =>
    have := hs rfl
    simp only at this
    subst this
    exact run_deedsin F W (m := 62) (.inr (.inr rfl)) ha hb hc
  | false =>
    cases s with
    | true => exact run_deedsin F W (m := 33) (.inl rfl) ha hb hc
    | false => exact run_deedsin F W (m := 63) (.inr (.inl rfl)) hb ha hc
theorem joinS_mem {t : List Nat} {c : Nat} : ∀ {ps : List (List Nat)} {p : List Nat}, p ∈ ps → c ∈ p → c ∈ joinS t ps
  | [p], _, hp, hc => by simp at hp; subst hp; exact hc
  | p :: q :: r, x, hp, hc => by
    rw [joinS]
    rcases List.mem_cons.mp hp with rfl | hp
    · simp [hc]
    · simp [joinS_mem (t := t) hp hc]
def inRow : CSs := (.cons (.asg (.nm 3) (.call 21 (.cons (.var 2) .nil))) (.cons (.iff (.or (.cmp .is (.var 3) (.lit .non)) (.not (.call 12 (.cons (.var 3) .nil)))) (.cons (.ret (.lit .non)) .nil) .nil) (.cons (.asg (.nm 1) (.bin .add (.var 1) (.var 3))) .nil)))
def RowIs (F : Fns) : Prop := ∀ (h : CH) (v : CV), Typ h v → (∀ xs, v = .tup xs → xs.length ≤ 1000 ∧ ∀ x ∈ xs, TD h x) → ∃ h', F 12 [v] h = some (.bl (rowV v), h') ∧ Off [] h h'
theorem Pq.rows_ok {q : Pq} (h : Pq.ok q) : ∀ d ∈ Pq.rows q, d.ok := by
  intro d hd
  unfold Pq.rows at hd
  split at hd
  · rcases List.mem_cons.mp hd with rfl | hd
    · exact h.1
    · rw [List.mem_singleton.mp hd]; exact h.1
  · rw [List.mem_singleton.mp hd]; exact h.1
theorem Pq.rows_len (q : Pq) : (Pq.rows q).length ≤ 2 := by unfold Pq.rows; split <;> simp
theorem rowV_ok {ds : List Dd} (h : ∀ d ∈ ds, d.ok) : rowV (.tup (ds.map Dd.cv)) = true := by
  show (ds.map Dd.cv).all deedV = true
  rw [List.all_eq_true]
  intro x hx
  obtain ⟨d, hd, rfl⟩ := List.mem_map.mp hx
  exact (Dd.deed (h d hd)).good
theorem flat_len : ∀ qs : List Pq, (qs.map Pq.rows).flatten.length ≤ 2 * qs.length
  | [] => by simp
  | q :: qs => by
    have := flat_len qs
    have := q.rows_len
    simp only [List.map_cons, List.flatten_cons, List.length_append, List.length_cons]
    omega
theorem run_rowin (F : Fns) (W : Nat) (h12 : RowIs F) (h21 : ∀ (q : Pq) (h : CH), Pq.ok q → F 21 [.str (Pq.text q)] h = some (.tup ((Pq.rows q).map Dd.cv), h)) {h : CH} {qs : List Pq} (hq : ∀ q ∈ qs, Pq.ok q) (hn : qs ≠ []) (hl : qs.length ≤ 1000) :
    ∃ h', runC F W n22.length b22 [.str (joinS [32] (qs.map Pq.text))] h = some (.tup ((qs.map Pq.rows).flatten.map Dd.cv), h') ∧ Off [] h h' := by
  have hsp : splitC 32 (joinS [32] (qs.map Pq.text)) = qs.map Pq.text := splitC_join (by simpa using hn) fun p hp => by
    obtain ⟨q, hq', rfl⟩ := List.mem_map.mp hp
    intro z
    rcases Pq.mem (hq q hq') 32 z with z | z | z | z | z
    · exact absurd z (by decide)
    all_goals omega
  have h58 : 58 ∈ joinS [32] (qs.map Pq.text) := by
    obtain ⟨q, hq'⟩ := List.exists_mem_of_ne_nil _ hn
    exact joinS_mem (List.mem_map.mpr ⟨q, hq', rfl⟩) Pq.colon
  have hd : decide (joinS [32] (qs.map Pq.text) = [45]) = false := decide_eq_false fun e => by rw [e] at h58; simp at h58
  have hlen : (joinS [32] (qs.map Pq.text)).length ≤ 27000 := by
    have := joinS_le (t := [32]) (n := 26) (qs.map Pq.text) fun p hp => by
      obtain ⟨q, hq', rfl⟩ := List.mem_map.mp hp
      exact Pq.len (hq q hq')
    have h2 : qs.length * 27 ≤ 1000 * 27 := Nat.mul_le_mul_right _ hl
    simp at this
    omega
  have ms := m_split (h := h) (c := 32) (t := joinS [32] (qs.map Pq.text)) ⟨by rw [show lim = 16777216 from rfl]; omega, by decide⟩
  rw [hsp] at ms
  generalize htx : joinS [32] (qs.map Pq.text) = tx at ms hd
  have g : (h ++ [CO.lst ((qs.map Pq.text).map CV.str)])[h.length]? = some (.lst ((qs.map Pq.text).map CV.str)) := get_new
  obtain ⟨s', h', e, ⟨y2, y3, rfl⟩, o⟩ := foK_inv (F := F) (W := W) (s := [some (.str tx), some (.tup []), none, none]) (h := h ++ [CO.lst ((qs.map Pq.text).map CV.str)]) (t := .nm 2) (b := inRow) (src := .cell h.length)
    (fun j s' h' => (∃ y2 y3, s' = [some (.str tx), some (.tup ((((qs.take j).map Pq.rows).flatten).map Dd.cv)), y2, y3]) ∧ Off [] (h ++ [CO.lst ((qs.map Pq.text).map CV.str)]) h')
    ⟨⟨none, none, by simp⟩, .refl _ _⟩
    (fun j s' h' hj ⟨⟨y2, y3, es⟩, o⟩ => by
      subst es
      rw [src_cellL g, List.length_map, List.length_map] at hj
      have hqj := hq _ (List.getElem_mem hj)
      have ht : qs.take (j + 1) = qs.take j ++ [qs[j]] := by rw [List.take_add_one, List.getElem?_eq_getElem hj]; rfl
      have hfl := flat_len (qs.take j)
      have htl : (qs.take j).length ≤ 1000 := by rw [List.length_take]; omega
      have hit : (Src.cell h.length).item h' j = some (some (.str (Pq.text qs[j]))) := by
        rw [src_cell (o.get g (by simp)), List.getElem?_map, List.getElem?_map, List.getElem?_eq_getElem hj]; rfl
      generalize qs[j] = q at hqj ht hit
      have hr := Pq.rows_ok hqj
      have hrl := q.rows_len
      obtain ⟨h2, e2, o2⟩ := h12 h' (.tup ((Pq.rows q).map Dd.cv)) trivial (fun xs ex => by
        cases ex
        refine ⟨by rw [List.length_map]; omega, fun x hx => ?_⟩
        obtain ⟨d, hd, rfl⟩ := List.mem_map.mp hx
        exact (Dd.deed (hr d hd)).td)
      rw [rowV_ok hr] at e2
      refine ⟨.str (Pq.text q), _, h2, hit, ?_, ⟨some (.str (Pq.text q)), some (.tup ((Pq.rows q).map Dd.cv)), rfl⟩, o.trans o2⟩
      rw [foB_nm, ht]
      have va := v_addT (h := h2) (a := (((qs.take j).map Pq.rows).flatten).map Dd.cv) (b := (Pq.rows q).map Dd.cv) (by rw [List.length_map, List.length_map]; exact lim_big (by omega))
      simp only [inRow, run_eq, List.length_cons, List.length_nil, List.map_cons, List.map_nil, List.cons_append, List.nil_append, List.replicate, List.set_cons_zero, List.set_cons_succ, x_cons, x_nil, seqC_nx, seqC_rt, x_asg, asgK_nm, asgK_sub, retS_some, retH_some, sub1_eq, sub2_eq, x_expr, exK_eq, x_ret, retK_eq, x_retn, x_iff, iffK_t, iffK_f, x_fo, x_pas, x_par, runK_nx, runK_rt, bindE_some, bindL_some, bindO_some, bindI_some, bindB_some, liftB_some, retV_some, asB_bl, bin1_eq, e_bin, cmpK_eq, cmp1_eq, e_cmp, cmpR_t, cmpR_f, cmp2a_eq, e_cmp2, cmpR3_t, cmpR3_f, cmp3a_eq, e_cmp3, e_and, e_or, andK_t, andK_f, orK_t, orK_f, bOut_eq, notK_eq, e_not, negK_int, e_neg, iteK_t, iteK_f, e_ite, tupK2_eq, e_tup, lstK_eq, e_lst, e_dct0, ixK_eq, ix1_eq, e_ix, sl1_eq, sl2_eq, e_sl, e_rev, o_no, o_ex, oK_int, e_call, e_bi, e_me, s_nil, s_cons, consA_eq, consB_eq, e_lit, e_glob, e_var0, e_varS, e_comp, i_range1, i_range2, r2a_eq, i_val, vK_tup, vK_str, t_lit, t_cmp, t_cmp2, t_cmp3, t_call, t_bi, t_var, t_and, t_or, t_not, andT_t, andT_f, orT_t, orT_f, notT_eq, v_add, v_sub, c_lt, c_le, c_gt, c_ge, c_eqI, c_neI, c_eqS, c_neS, c_isN, c_isnotN, c_isB, c_isnotB, x_tup, x_lstV, sl_lstV, sl_tup, b_lenT, b_lenV, decide_true, decide_false, Bool.not_true, Bool.not_false, at0, at1, at2, at3, Nat.reduceAdd, Nat.reduceSub, Nat.reduceMul, Int.reduceAdd, Int.reduceSub, Int.reduceMul, Int.reduceNeg, Int.reduceLT, Int.reduceLE, Int.reduceToNat, Int.cast_ofNat_Int, get_at, get_at0, set_at, set_at0, v_addR, addO_ok, b_lenR, lenO_lst, x_ref, ixO_lst, sl_ref, slO_lst, set_ref, m_appR, appO_lst, b_allR, b_anyR, b_listT, vK_ref, vO_lst, me1_app, recO_lst, when_t, List.append_assoc, List.length_append, List.getElem?_cons_zero, List.getElem?_cons_succ, Nat.zero_add, lim_big, lim_lt, Nat.reduceLeDiff, Nat.reduceLT, asgK_tupS, foB_tupS, foB_nm, setN_nil, setN_cons, tupS_some, bindS_some, forL_nil, forL_cons, foK_tup, foK_str, r_part, r_split, r_join, h21 q h' hqj, e2, va, reduceCtorEq, List.map_append, List.map_cons, List.map_nil, List.flatten_append, List.flatten_cons, List.flatten_nil, List.append_nil])
    (fun s' h' hi => by rw [src_cellL g, src_cell (hi.2.get g (by simp)), List.getElem?_eq_none (Nat.le_refl _)])
  rw [src_cellL g, List.length_map, List.length_map, List.take_length] at e
  refine ⟨h', ?_, (Off.app _ _ _).trans o⟩
  unfold inRow at e
  simp only [b22, n22, run_eq, List.length_cons, List.length_nil, List.map_cons, List.map_nil, List.cons_append, List.nil_append, List.replicate, List.set_cons_zero, List.set_cons_succ, x_cons, x_nil, seqC_nx, seqC_rt, x_asg, asgK_nm, asgK_sub, retS_some, retH_some, sub1_eq, sub2_eq, x_expr, exK_eq, x_ret, retK_eq, x_retn, x_iff, iffK_t, iffK_f, x_fo, x_pas, x_par, runK_nx, runK_rt, bindE_some, bindL_some, bindO_some, bindI_some, bindB_some, liftB_some, retV_some, asB_bl, bin1_eq, e_bin, cmpK_eq, cmp1_eq, e_cmp, cmpR_t, cmpR_f, cmp2a_eq, e_cmp2, cmpR3_t, cmpR3_f, cmp3a_eq, e_cmp3, e_and, e_or, andK_t, andK_f, orK_t, orK_f, bOut_eq, notK_eq, e_not, negK_int, e_neg, iteK_t, iteK_f, e_ite, tupK2_eq, e_tup, lstK_eq, e_lst, e_dct0, ixK_eq, ix1_eq, e_ix, sl1_eq, sl2_eq, e_sl, e_rev, o_no, o_ex, oK_int, e_call, e_bi, e_me, s_nil, s_cons, consA_eq, consB_eq, e_lit, e_glob, e_var0, e_varS, e_comp, i_range1, i_range2, r2a_eq, i_val, vK_tup, vK_str, t_lit, t_cmp, t_cmp2, t_cmp3, t_call, t_bi, t_var, t_and, t_or, t_not, andT_t, andT_f, orT_t, orT_f, notT_eq, v_add, v_sub, c_lt, c_le, c_gt, c_ge, c_eqI, c_neI, c_eqS, c_neS, c_isN, c_isnotN, c_isB, c_isnotB, x_tup, x_lstV, sl_lstV, sl_tup, b_lenT, b_lenV, decide_true, decide_false, Bool.not_true, Bool.not_false, at0, at1, at2, at3, Nat.reduceAdd, Nat.reduceSub, Nat.reduceMul, Int.reduceAdd, Int.reduceSub, Int.reduceMul, Int.reduceNeg, Int.reduceLT, Int.reduceLE, Int.reduceToNat, Int.cast_ofNat_Int, get_at, get_at0, set_at, set_at0, v_addR, addO_ok, b_lenR, lenO_lst, x_ref, ixO_lst, sl_ref, slO_lst, set_ref, m_appR, appO_lst, b_allR, b_anyR, b_listT, vK_ref, vO_lst, me1_app, recO_lst, when_t, List.append_assoc, List.length_append, List.getElem?_cons_zero, List.getElem?_cons_succ, Nat.zero_add, lim_big, lim_lt, Nat.reduceLeDiff, Nat.reduceLT, asgK_tupS, foB_tupS, foB_nm, setN_nil, setN_cons, tupS_some, bindS_some, forL_nil, forL_cons, foK_tup, foK_str, r_part, r_split, r_join, hd, me1_eq r_split, ms, vK_lst g, e]
theorem run_rowin0 (F : Fns) (W : Nat) {h : CH} : runC F W n22.length b22 [.str [45]] h = some (.tup [], h) := by
  simp only [b22, n22, run_eq, List.length_cons, List.length_nil, List.map_cons, List.map_nil, List.cons_append, List.nil_append, List.replicate, List.set_cons_zero, List.set_cons_succ, x_cons, x_nil, seqC_nx, seqC_rt, x_asg, asgK_nm, asgK_sub, retS_some, retH_some, sub1_eq, sub2_eq, x_expr, exK_eq, x_ret, retK_eq, x_retn, x_iff, iffK_t, iffK_f, x_fo, x_pas, x_par, runK_nx, runK_rt, bindE_some, bindL_some, bindO_some, bindI_some, bindB_some, liftB_some, retV_some, asB_bl, bin1_eq, e_bin, cmpK_eq, cmp1_eq, e_cmp, cmpR_t, cmpR_f, cmp2a_eq, e_cmp2, cmpR3_t, cmpR3_f, cmp3a_eq, e_cmp3, e_and, e_or, andK_t, andK_f, orK_t, orK_f, bOut_eq, notK_eq, e_not, negK_int, e_neg, iteK_t, iteK_f, e_ite, tupK2_eq, e_tup, lstK_eq, e_lst, e_dct0, ixK_eq, ix1_eq, e_ix, sl1_eq, sl2_eq, e_sl, e_rev, o_no, o_ex, oK_int, e_call, e_bi, e_me, s_nil, s_cons, consA_eq, consB_eq, e_lit, e_glob, e_var0, e_varS, e_comp, i_range1, i_range2, r2a_eq, i_val, vK_tup, vK_str, t_lit, t_cmp, t_cmp2, t_cmp3, t_call, t_bi, t_var, t_and, t_or, t_not, andT_t, andT_f, orT_t, orT_f, notT_eq, v_add, v_sub, c_lt, c_le, c_gt, c_ge, c_eqI, c_neI, c_eqS, c_neS, c_isN, c_isnotN, c_isB, c_isnotB, x_tup, x_lstV, sl_lstV, sl_tup, b_lenT, b_lenV, decide_true, decide_false, Bool.not_true, Bool.not_false, at0, at1, at2, at3, Nat.reduceAdd, Nat.reduceSub, Nat.reduceMul, Int.reduceAdd, Int.reduceSub, Int.reduceMul, Int.reduceNeg, Int.reduceLT, Int.reduceLE, Int.reduceToNat, Int.cast_ofNat_Int, get_at, get_at0, set_at, set_at0, v_addR, addO_ok, b_lenR, lenO_lst, x_ref, ixO_lst, sl_ref, slO_lst, set_ref, m_appR, appO_lst, b_allR, b_anyR, b_listT, vK_ref, vO_lst, me1_app, recO_lst, when_t, List.append_assoc, List.length_append, List.getElem?_cons_zero, List.getElem?_cons_succ, Nat.zero_add, lim_big, lim_lt, Nat.reduceLeDiff, Nat.reduceLT, asgK_tupS, foB_tupS, foB_nm, setN_nil, setN_cons, tupS_some, bindS_some, forL_nil, forL_cons, foK_tup, foK_str, r_part, r_split, r_join]
theorem run_read (F : Fns) (W : Nat) {h h' : CH} {t : List Nat} {xs : List CV} (e : F 22 [.str t] h = some (.tup xs, h')) : runC F W n23.length b23 [.str t] h = some (.tup xs, h') := by
  have t1 : Typ h (.str t) := trivial
  simp only [b23, n23, run_eq, List.length_cons, List.length_nil, List.map_cons, List.map_nil, List.cons_append, List.nil_append, List.replicate, List.set_cons_zero, List.set_cons_succ, x_cons, x_nil, seqC_nx, seqC_rt, x_asg, asgK_nm, asgK_sub, retS_some, retH_some, sub1_eq, sub2_eq, x_expr, exK_eq, x_ret, retK_eq, x_retn, x_iff, iffK_t, iffK_f, x_fo, x_pas, x_par, runK_nx, runK_rt, bindE_some, bindL_some, bindO_some, bindI_some, bindB_some, liftB_some, retV_some, asB_bl, bin1_eq, e_bin, cmpK_eq, cmp1_eq, e_cmp, cmpR_t, cmpR_f, cmp2a_eq, e_cmp2, cmpR3_t, cmpR3_f, cmp3a_eq, e_cmp3, e_and, e_or, andK_t, andK_f, orK_t, orK_f, bOut_eq, notK_eq, e_not, negK_int, e_neg, iteK_t, iteK_f, e_ite, tupK2_eq, e_tup, lstK_eq, e_lst, e_dct0, ixK_eq, ix1_eq, e_ix, sl1_eq, sl2_eq, e_sl, e_rev, o_no, o_ex, oK_int, e_call, e_bi, e_me, s_nil, s_cons, consA_eq, consB_eq, e_lit, e_glob, e_var0, e_varS, e_comp, i_range1, i_range2, r2a_eq, i_val, vK_tup, vK_str, t_lit, t_cmp, t_cmp2, t_cmp3, t_call, t_bi, t_var, t_and, t_or, t_not, andT_t, andT_f, orT_t, orT_f, notT_eq, v_add, v_sub, c_lt, c_le, c_gt, c_ge, c_eqI, c_neI, c_eqS, c_neS, c_isN, c_isnotN, c_isB, c_isnotB, x_tup, x_lstV, sl_lstV, sl_tup, b_lenT, b_lenV, decide_true, decide_false, Bool.not_true, Bool.not_false, at0, at1, at2, at3, Nat.reduceAdd, Nat.reduceSub, Nat.reduceMul, Int.reduceAdd, Int.reduceSub, Int.reduceMul, Int.reduceNeg, Int.reduceLT, Int.reduceLE, Int.reduceToNat, Int.cast_ofNat_Int, get_at, get_at0, set_at, set_at0, v_addR, addO_ok, b_lenR, lenO_lst, x_ref, ixO_lst, sl_ref, slO_lst, set_ref, m_appR, appO_lst, b_allR, b_anyR, b_listT, vK_ref, vO_lst, me1_app, recO_lst, when_t, List.append_assoc, List.length_append, List.getElem?_cons_zero, List.getElem?_cons_succ, Nat.zero_add, lim_big, lim_lt, Nat.reduceLeDiff, Nat.reduceLT, asgK_tupS, foB_tupS, foB_nm, setN_nil, setN_cons, tupS_some, bindS_some, forL_nil, forL_cons, foK_tup, foK_str, r_part, r_split, r_join, b_isi (i_str t1), isStr, e, reduceCtorEq]
end TH

namespace TH
open PySem
/-! ### the law's own texts -/
theorem take_ev {F : Fns} {s : Env} {h : CH} {e : CE} {d : Dd} (he : evalC F e s h = some (d.cv, h)) : evalC F (.bin .add (.tup (.cons (.lit (.str [116, 97, 107, 101])) .nil)) (.sl e (.ex (.lit (.int 1))) .no)) s h = some (d.tk.cv, h) := by
  have k1 : kd false = [116, 97, 107, 101] := rfl
  rw [Dd.cv] at he
  simp only [run_eq, List.length_cons, List.length_nil, List.map_cons, List.map_nil, List.cons_append, List.nil_append, List.replicate, List.set_cons_zero, List.set_cons_succ, x_cons, x_nil, seqC_nx, seqC_rt, x_asg, asgK_nm, asgK_sub, retS_some, retH_some, sub1_eq, sub2_eq, x_expr, exK_eq, x_ret, retK_eq, x_retn, x_iff, iffK_t, iffK_f, x_fo, x_pas, x_par, runK_nx, runK_rt, bindE_some, bindL_some, bindO_some, bindI_some, bindB_some, liftB_some, retV_some, asB_bl, bin1_eq, e_bin, cmpK_eq, cmp1_eq, e_cmp, cmpR_t, cmpR_f, cmp2a_eq, e_cmp2, cmpR3_t, cmpR3_f, cmp3a_eq, e_cmp3, e_and, e_or, andK_t, andK_f, orK_t, orK_f, bOut_eq, notK_eq, e_not, negK_int, e_neg, iteK_t, iteK_f, e_ite, tupK2_eq, e_tup, lstK_eq, e_lst, e_dct0, ixK_eq, ix1_eq, e_ix, sl1_eq, sl2_eq, e_sl, e_rev, o_no, o_ex, oK_int, e_call, e_bi, e_me, s_nil, s_cons, consA_eq, consB_eq, e_lit, e_glob, e_var0, e_varS, e_comp, i_range1, i_range2, r2a_eq, i_val, vK_tup, vK_str, t_lit, t_cmp, t_cmp2, t_cmp3, t_call, t_bi, t_var, t_and, t_or, t_not, andT_t, andT_f, orT_t, orT_f, notT_eq, v_add, v_sub, c_lt, c_le, c_gt, c_ge, c_eqI, c_neI, c_eqS, c_neS, c_isN, c_isnotN, c_isB, c_isnotB, x_tup, x_lstV, sl_lstV, sl_tup, b_lenT, b_lenV, decide_true, decide_false, Bool.not_true, Bool.not_false, at0, at1, at2, at3, Nat.reduceAdd, Nat.reduceSub, Nat.reduceMul, Int.reduceAdd, Int.reduceSub, Int.reduceMul, Int.reduceNeg, Int.reduceLT, Int.reduceLE, Int.reduceToNat, Int.cast_ofNat_Int, get_at, get_at0, set_at, set_at0, v_addR, addO_ok, b_lenR, lenO_lst, x_ref, ixO_lst, sl_ref, slO_lst, set_ref, m_appR, appO_lst, b_allR, b_anyR, b_listT, vK_ref, vO_lst, me1_app, recO_lst, when_t, List.append_assoc, List.length_append, List.getElem?_cons_zero, List.getElem?_cons_succ, Nat.zero_add, lim_big, lim_lt, Nat.reduceLeDiff, Nat.reduceLT, he, cut1, v_addT, Dd.cv, Dd.tk, k1]
def takenE : CE := (.and (.cmp .gt (.var 2) (.lit (.int 0))) (.and (.cmp .eq (.ix (.var 0) (.var 2)) (.bin .add (.tup (.cons (.lit (.str [116, 97, 107, 101])) .nil)) (.sl (.ix (.var 0) (.bin .sub (.var 2) (.lit (.int 1)))) (.ex (.lit (.int 1))) .no))) (.cmp .eq (.ix (.ix (.var 0) (.bin .sub (.var 2) (.lit (.int 1)))) (.lit (.int 0))) (.lit (.str [115, 101, 110, 100])))))
def bothE : CE := (.and (.cmp .lt (.bin .add (.var 2) (.lit (.int 1))) (.bi .len (.cons (.var 0) .nil))) (.and (.cmp .eq (.ix (.ix (.var 0) (.var 2)) (.lit (.int 0))) (.lit (.str [115, 101, 110, 100]))) (.cmp .eq (.ix (.var 0) (.bin .add (.var 2) (.lit (.int 1)))) (.bin .add (.tup (.cons (.lit (.str [116, 97, 107, 101])) .nil)) (.sl (.ix (.var 0) (.var 2)) (.ex (.lit (.int 1))) .no)))))
def takenAt (ds : List Dd) : Nat → Bool
  | 0 => false
  | k + 1 => bothAt ds k
theorem taken_ev (F : Fns) {h : CH} {ds : List Dd} {k : Nat} {x1 x3 x4 : Option CV} (hk : k < ds.length) : evalC F takenE [some (.tup (ds.map Dd.cv)), x1, some (.int (k : Int)), x3, x4] h = some (.bl (takenAt ds k), h) := by
  cases k with
  | zero => simp only [takenE, run_eq, List.length_cons, List.length_nil, List.map_cons, List.map_nil, List.cons_append, List.nil_append, List.replicate, List.set_cons_zero, List.set_cons_succ, x_cons, x_nil, seqC_nx, seqC_rt, x_asg, asgK_nm, asgK_sub, retS_some, retH_some, sub1_eq, sub2_eq, x_expr, exK_eq, x_ret, retK_eq, x_retn, x_iff, iffK_t, iffK_f, x_fo, x_pas, x_par, runK_nx, runK_rt, bindE_some, bindL_some, bindO_some, bindI_some, bindB_some, liftB_some, retV_some, asB_bl, bin1_eq, e_bin, cmpK_eq, cmp1_eq, e_cmp, cmpR_t, cmpR_f, cmp2a_eq, e_cmp2, cmpR3_t, cmpR3_f, cmp3a_eq, e_cmp3, e_and, e_or, andK_t, andK_f, orK_t, orK_f, bOut_eq, notK_eq, e_not, negK_int, e_neg, iteK_t, iteK_f, e_ite, tupK2_eq, e_tup, lstK_eq, e_lst, e_dct0, ixK_eq, ix1_eq, e_ix, sl1_eq, sl2_eq, e_sl, e_rev, o_no, o_ex, oK_int, e_call, e_bi, e_me, s_nil, s_cons, consA_eq, consB_eq, e_lit, e_glob, e_var0, e_varS, e_comp, i_range1, i_range2, r2a_eq, i_val, vK_tup, vK_str, t_lit, t_cmp, t_cmp2, t_cmp3, t_call, t_bi, t_var, t_and, t_or, t_not, andT_t, andT_f, orT_t, orT_f, notT_eq, v_add, v_sub, c_lt, c_le, c_gt, c_ge, c_eqI, c_neI, c_eqS, c_neS, c_isN, c_isnotN, c_isB, c_isnotB, x_tup, x_lstV, sl_lstV, sl_tup, b_lenT, b_lenV, decide_true, decide_false, Bool.not_true, Bool.not_false, at0, at1, at2, at3, Nat.reduceAdd, Nat.reduceSub, Nat.reduceMul, Int.reduceAdd, Int.reduceSub, Int.reduceMul, Int.reduceNeg, Int.reduceLT, Int.reduceLE, Int.reduceToNat, Int.cast_ofNat_Int, get_at, get_at0, set_at, set_at0, v_addR, addO_ok, b_lenR, lenO_lst, x_ref, ixO_lst, sl_ref, slO_lst, set_ref, m_appR, appO_lst, b_allR, b_anyR, b_listT, vK_ref, vO_lst, me1_app, recO_lst, when_t, List.append_assoc, List.length_append, List.getElem?_cons_zero, List.getElem?_cons_succ, Nat.zero_add, lim_big, lim_lt, Nat.reduceLeDiff, Nat.reduceLT, takenAt, show decide ((0 : Int) < ((0 : Nat) : Int)) = false from rfl]
  | succ k =>
    have e1 : ds[k + 1]? = some ds[k + 1] := List.getElem?_eq_getElem hk
    have hk0 : k < ds.length := by omega
    have e0 : ds[k]? = some ds[k] := List.getElem?_eq_getElem hk0
    have a1 := at_row e1
    have a0 := at_row e0
    have hb : bothAt ds k = isBoth ds[k] ds[k + 1] := by unfold bothAt; rw [e0, e1]
    generalize ds[k + 1] = e at a1 hb
    generalize ds[k] = d at a0 hb
    have hs : ((k + 1 : Nat) : Int) - 1 = (k : Int) := by omega
    have hg : decide ((0 : Int) < ((k + 1 : Nat) : Int)) = true := decide_eq_true (by omega)
    have ix : evalC F (.ix (.var 0) (.bin .sub (.var 2) (.lit (.int 1)))) [some (.tup (ds.map Dd.cv)), x1, some (.int ((k + 1 : Nat) : Int)), x3, x4] h = some (d.cv, h) := by
      simp only [run_eq, List.length_cons, List.length_nil, List.map_cons, List.map_nil, List.cons_append, List.nil_append, List.replicate, List.set_cons_zero, List.set_cons_succ, x_cons, x_nil, seqC_nx, seqC_rt, x_asg, asgK_nm, asgK_sub, retS_some, retH_some, sub1_eq, sub2_eq, x_expr, exK_eq, x_ret, retK_eq, x_retn, x_iff, iffK_t, iffK_f, x_fo, x_pas, x_par, runK_nx, runK_rt, bindE_some, bindL_some, bindO_some, bindI_some, bindB_some, liftB_some, retV_some, asB_bl, bin1_eq, e_bin, cmpK_eq, cmp1_eq, e_cmp, cmpR_t, cmpR_f, cmp2a_eq, e_cmp2, cmpR3_t, cmpR3_f, cmp3a_eq, e_cmp3, e_and, e_or, andK_t, andK_f, orK_t, orK_f, bOut_eq, notK_eq, e_not, negK_int, e_neg, iteK_t, iteK_f, e_ite, tupK2_eq, e_tup, lstK_eq, e_lst, e_dct0, ixK_eq, ix1_eq, e_ix, sl1_eq, sl2_eq, e_sl, e_rev, o_no, o_ex, oK_int, e_call, e_bi, e_me, s_nil, s_cons, consA_eq, consB_eq, e_lit, e_glob, e_var0, e_varS, e_comp, i_range1, i_range2, r2a_eq, i_val, vK_tup, vK_str, t_lit, t_cmp, t_cmp2, t_cmp3, t_call, t_bi, t_var, t_and, t_or, t_not, andT_t, andT_f, orT_t, orT_f, notT_eq, v_add, v_sub, c_lt, c_le, c_gt, c_ge, c_eqI, c_neI, c_eqS, c_neS, c_isN, c_isnotN, c_isB, c_isnotB, x_tup, x_lstV, sl_lstV, sl_tup, b_lenT, b_lenV, decide_true, decide_false, Bool.not_true, Bool.not_false, at0, at1, at2, at3, Nat.reduceAdd, Nat.reduceSub, Nat.reduceMul, Int.reduceAdd, Int.reduceSub, Int.reduceMul, Int.reduceNeg, Int.reduceLT, Int.reduceLE, Int.reduceToNat, Int.cast_ofNat_Int, get_at, get_at0, set_at, set_at0, v_addR, addO_ok, b_lenR, lenO_lst, x_ref, ixO_lst, sl_ref, slO_lst, set_ref, m_appR, appO_lst, b_allR, b_anyR, b_listT, vK_ref, vO_lst, me1_app, recO_lst, when_t, List.append_assoc, List.length_append, List.getElem?_cons_zero, List.getElem?_cons_succ, Nat.zero_add, lim_big, lim_lt, Nat.reduceLeDiff, Nat.reduceLT, hs, a0]
    have et := take_ev ix
    have eq := eq_deed (h := h) (d := e) (e := d.tk)
    rw [takenAt, hb, isBoth]
    have ex : ixV d.cv (.int 0) = fun h => some (.str (kd d.s)) := atI_dd0
    unfold takenE
    rw [e_and]
    simp only [t_cmp, e_cmp, e_var0, e_varS, bindE_some, cmp1_eq, e_lit, cmpK_eq, c_gt, hg, liftB_some, asB_bl, bindB_some, andK_t, t_and, et, e_ix, ix1_eq, ixK_eq, x_tup, a1, retV_some, c_eq eq]
    cases hde : decide (e = d.tk) with
    | false => simp only [andT_f, bOut_eq, bindB_some, Bool.and_false]
    | true =>
      rw [e_ix] at ix
      simp only [andT_t, t_cmp, e_cmp, e_ix, ix, bindE_some, ix1_eq, e_lit, ixK_eq, ex, retV_some, cmp1_eq, cmpK_eq, c_eqS, kd_send, liftB_some, asB_bl, bindB_some, bOut_eq, Bool.and_true]
theorem both_ev (F : Fns) {h : CH} {ds : List Dd} {k : Nat} {x1 x3 x4 : Option CV} (hk : k < ds.length) : evalC F bothE [some (.tup (ds.map Dd.cv)), x1, some (.int (k : Int)), x3, x4] h = some (.bl (bothAt ds k), h) := by
  have e0 : ds[k]? = some ds[k] := List.getElem?_eq_getElem hk
  have a0 := at_row e0
  have hs : (k : Int) + 1 = ((k + 1 : Nat) : Int) := by omega
  have ix : evalC F (.ix (.var 0) (.var 2)) [some (.tup (ds.map Dd.cv)), x1, some (.int (k : Int)), x3, x4] h = some (ds[k].cv, h) := by
    simp only [run_eq, List.length_cons, List.length_nil, List.map_cons, List.map_nil, List.cons_append, List.nil_append, List.replicate, List.set_cons_zero, List.set_cons_succ, x_cons, x_nil, seqC_nx, seqC_rt, x_asg, asgK_nm, asgK_sub, retS_some, retH_some, sub1_eq, sub2_eq, x_expr, exK_eq, x_ret, retK_eq, x_retn, x_iff, iffK_t, iffK_f, x_fo, x_pas, x_par, runK_nx, runK_rt, bindE_some, bindL_some, bindO_some, bindI_some, bindB_some, liftB_some, retV_some, asB_bl, bin1_eq, e_bin, cmpK_eq, cmp1_eq, e_cmp, cmpR_t, cmpR_f, cmp2a_eq, e_cmp2, cmpR3_t, cmpR3_f, cmp3a_eq, e_cmp3, e_and, e_or, andK_t, andK_f, orK_t, orK_f, bOut_eq, notK_eq, e_not, negK_int, e_neg, iteK_t, iteK_f, e_ite, tupK2_eq, e_tup, lstK_eq, e_lst, e_dct0, ixK_eq, ix1_eq, e_ix, sl1_eq, sl2_eq, e_sl, e_rev, o_no, o_ex, oK_int, e_call, e_bi, e_me, s_nil, s_cons, consA_eq, consB_eq, e_lit, e_glob, e_var0, e_varS, e_comp, i_range1, i_range2, r2a_eq, i_val, vK_tup, vK_str, t_lit, t_cmp, t_cmp2, t_cmp3, t_call, t_bi, t_var, t_and, t_or, t_not, andT_t, andT_f, orT_t, orT_f, notT_eq, v_add, v_sub, c_lt, c_le, c_gt, c_ge, c_eqI, c_neI, c_eqS, c_neS, c_isN, c_isnotN, c_isB, c_isnotB, x_tup, x_lstV, sl_lstV, sl_tup, b_lenT, b_lenV, decide_true, decide_false, Bool.not_true, Bool.not_false, at0, at1, at2, at3, Nat.reduceAdd, Nat.reduceSub, Nat.reduceMul, Int.reduceAdd, Int.reduceSub, Int.reduceMul, Int.reduceNeg, Int.reduceLT, Int.reduceLE, Int.reduceToNat, Int.cast_ofNat_Int, get_at, get_at0, set_at, set_at0, v_addR, addO_ok, b_lenR, lenO_lst, x_ref, ixO_lst, sl_ref, slO_lst, set_ref, m_appR, appO_lst, b_allR, b_anyR, b_listT, vK_ref, vO_lst, me1_app, recO_lst, when_t, List.append_assoc, List.length_append, List.getElem?_cons_zero, List.getElem?_cons_succ, Nat.zero_add, lim_big, lim_lt, Nat.reduceLeDiff, Nat.reduceLT, a0]
  have et := take_ev ix
  have ex : ixV ds[k].cv (.int 0) = fun h => some (.str (kd ds[k].s)) := atI_dd0
  have hb : bothAt ds k = match ds[k + 1]? with | some e => isBoth ds[k] e | none => false := by
    unfold bothAt
    rw [e0]
    cases ds[k + 1]? <;> rfl
  generalize ds[k] = d at e0 a0 ix et ex hb
  rw [e_ix] at ix
  unfold bothE
  rw [e_and]
  cases e1 : ds[k + 1]? with
  | none =>
    have hn := List.getElem?_eq_none_iff.mp e1
    rw [hb, e1]
    simp only [t_cmp, e_cmp, e_bin, e_var0, e_varS, bindE_some, bin1_eq, e_lit, v_add, cmp1_eq, e_bi, s_cons, s_nil, consA_eq, consB_eq, bindL_some, b_lenT, List.length_map, cmpK_eq, c_lt, hs, len_nat, decide_eq_false (show ¬ k + 1 < ds.length by omega), liftB_some, asB_bl, bindB_some, andK_f]
  | some e =>
    obtain ⟨hl, he⟩ := List.getElem?_eq_some_iff.mp e1
    have a1 := at_row e1
    have eq := eq_deed (h := h) (d := e) (e := d.tk)
    rw [hb, e1]
    simp only [t_cmp, e_cmp, e_bin, e_var0, e_varS, bindE_some, bin1_eq, e_lit, v_add, cmp1_eq, e_bi, s_cons, s_nil, consA_eq, consB_eq, bindL_some, b_lenT, List.length_map, cmpK_eq, c_lt, hs, len_nat, decide_eq_true hl, liftB_some, asB_bl, bindB_some, andK_t, t_and, e_ix, x_tup, a0, ix1_eq, ixK_eq, ex, retV_some, c_eqS, kd_send]
    rw [isBoth]
    cases hds : d.s with
    | false => simp only [andT_f, bOut_eq, bindB_some, Bool.false_and]
    | true =>
      rw [e_bin] at et
      simp only [andT_t, t_cmp, e_cmp, e_ix, e_var0, e_varS, bindE_some, ix1_eq, e_bin, bin1_eq, e_lit, v_add, hs, ixK_eq, x_tup, a1, retV_some, cmp1_eq, et, cmpK_eq, c_eq eq, liftB_some, asB_bl, bindB_some, bOut_eq, Bool.true_and]
def in25 : CSs := (.cons (.asg (.nm 3) takenE) (.cons (.asg (.nm 4) bothE) (.cons (.iff (.var 4) (.cons (.expr (.me .append (.var 1) (.cons (.bin .add (.bin .add (.bin .add (.bin .add (.ix (.ix (.var 0) (.var 2)) (.lit (.int 1))) (.lit (.str [62]))) (.ix (.ix (.var 0) (.var 2)) (.lit (.int 2)))) (.lit (.str [58]))) (.ix (.ix (.var 0) (.var 2)) (.lit (.int 3)))) .nil))) .nil) (.cons (.iff (.not (.var 3)) (.cons (.expr (.me .append (.var 1) (.cons (.call 24 (.cons (.ix (.var 0) (.var 2)) .nil)) .nil))) .nil) .nil) .nil)) .nil)))
theorem both_next {ds : List Dd} {k : Nat} (h : bothAt ds k = true) : bothAt ds (k + 1) = false := by
  unfold bothAt at h ⊢
  cases e0 : ds[k]? with
  | none => simp [e0] at h
  | some d =>
    cases e1 : ds[k + 1]? with
    | none => simp [e0, e1] at h
    | some e =>
      rw [e0, e1] at h
      have := (isBoth_eq h).2
      cases e2 : ds[k + 1 + 1]? with
      | none => rfl
      | some f => simp [isBoth, this, Dd.tk]
theorem parts_nil : ∀ ds : List Dd, decide (parts ds = []) = decide (ds = [])
  | [] => by simp [parts]
  | [d] => by simp [parts]
  | d :: e :: r => by
    rw [parts]
    split <;> simp
theorem run_lawtext (F : Fns) (W : Nat) (h24 : ∀ (d : Dd) (h : CH), d.ok → F 24 [d.cv] h = some (.str d.one, h)) {h : CH} {ds : List Dd} (hd : ∀ d ∈ ds, d.ok) (hl : ds.length ≤ 1000) :
    ∃ h', runC F W n25.length b25 [.tup (ds.map Dd.cv)] h = some (.str (textOf ds), h') ∧ Off [] h h' := by
  have sm : small62 (ds.length : Int) = true := by unfold small62; simp only [Bool.and_eq_true, decide_eq_true_eq]; omega
  obtain ⟨s', h', e, ⟨x2, x3, x4, ps, es, g, hp, hps⟩, o⟩ := foK_inv (F := F) (W := W) (s := [some (.tup (ds.map Dd.cv)), some (.ref h.length), none, none, none]) (h := h ++ [CO.lst []]) (t := .nm 2) (b := in25) (src := .ints 0 ds.length)
    (fun j s' h' => (∃ (x2 x3 x4 : Option CV) (ps : List (List Nat)), s' = [some (.tup (ds.map Dd.cv)), some (.ref h.length), x2, x3, x4] ∧ h'[h.length]? = some (.lst (ps.map .str)) ∧ ps.length ≤ j ∧ parts ds = ps ++ parts (ds.drop (if takenAt ds j = true then j + 1 else j))) ∧ Off [] h h')
    ⟨⟨none, none, none, [], rfl, get_new, by simp, by simp [takenAt]⟩, Off.app _ _ _⟩
    (fun j s' h' hj ⟨⟨x2, x3, x4, ps, es, g, hpl, hps⟩, o⟩ => by
      subst es
      rw [src_intsL] at hj
      have e0 : ds[j]? = some ds[j] := List.getElem?_eq_getElem hj
      have hdj := hd _ (List.getElem_mem hj)
      have a0 := at_row e0
      have pa := parts_at e0
      have et := fun x4 => taken_ev F (h := h') (x1 := some (.ref h.length)) (x3 := x3) (x4 := x4) hj
      have eb := fun x3 => both_ev F (h := h') (x1 := some (.ref h.length)) (x3 := x3) (x4 := x4) hj
      generalize ds[j] = d at e0 hdj a0 pa
      obtain ⟨l1, l2, l3⟩ := d.len hdj
      have hz : (0 : Int) + (j : Int) = (j : Int) := by omega
      cases hB : bothAt ds j with
      | true =>
        have ht : takenAt ds j = false := by
          cases hk : takenAt ds j with
          | false => rfl
          | true =>
            cases j with
            | zero => cases hk
            | succ j => rw [both_next hk] at hB; cases hB
        rw [hB, if_pos rfl] at pa
        rw [ht, if_neg Bool.false_ne_true] at hps
        have e5 := add5 (F := F) (h := h') (s := [some (.tup (ds.map Dd.cv)), some (.ref h.length), some (.int (j : Int)), some (.bl false), some (.bl true)]) (x := .ix (.ix (.var 0) (.var 2)) (.lit (.int 1))) (y := .ix (.ix (.var 0) (.var 2)) (.lit (.int 2))) (z := .ix (.ix (.var 0) (.var 2)) (.lit (.int 3))) (m := 62) (n := 58) (a := d.a) (b := d.b) (c := d.c) (by omega) (by omega) (by omega) (by simp only [Dd.cv, run_eq, List.length_cons, List.length_nil, List.map_cons, List.map_nil, List.cons_append, List.nil_append, List.replicate, List.set_cons_zero, List.set_cons_succ, x_cons, x_nil, seqC_nx, seqC_rt, x_asg, asgK_nm, asgK_sub, retS_some, retH_some, sub1_eq, sub2_eq, x_expr, exK_eq, x_ret, retK_eq, x_retn, x_iff, iffK_t, iffK_f, x_fo, x_pas, x_par, runK_nx, runK_rt, bindE_some, bindL_some, bindO_some, bindI_some, bindB_some, liftB_some, retV_some, asB_bl, bin1_eq, e_bin, cmpK_eq, cmp1_eq, e_cmp, cmpR_t, cmpR_f, cmp2a_eq, e_cmp2, cmpR3_t, cmpR3_f, cmp3a_eq, e_cmp3, e_and, e_or, andK_t, andK_f, orK_t, orK_f, bOut_eq, notK_eq, e_not, negK_int, e_neg, iteK_t, iteK_f, e_ite, tupK2_eq, e_tup, lstK_eq, e_lst, e_dct0, ixK_eq, ix1_eq, e_ix, sl1_eq, sl2_eq, e_sl, e_rev, o_no, o_ex, oK_int, e_call, e_bi, e_me, s_nil, s_cons, consA_eq, consB_eq, e_lit, e_glob, e_var0, e_varS, e_comp, i_range1, i_range2, r2a_eq, i_val, vK_tup, vK_str, t_lit, t_cmp, t_cmp2, t_cmp3, t_call, t_bi, t_var, t_and, t_or, t_not, andT_t, andT_f, orT_t, orT_f, notT_eq, v_add, v_sub, c_lt, c_le, c_gt, c_ge, c_eqI, c_neI, c_eqS, c_neS, c_isN, c_isnotN, c_isB, c_isnotB, x_tup, x_lstV, sl_lstV, sl_tup, b_lenT, b_lenV, decide_true, decide_false, Bool.not_true, Bool.not_false, at0, at1, at2, at3, Nat.reduceAdd, Nat.reduceSub, Nat.reduceMul, Int.reduceAdd, Int.reduceSub, Int.reduceMul, Int.reduceNeg, Int.reduceLT, Int.reduceLE, Int.reduceToNat, Int.cast_ofNat_Int, get_at, get_at0, set_at, set_at0, v_addR, addO_ok, b_lenR, lenO_lst, x_ref, ixO_lst, sl_ref, slO_lst, set_ref, m_appR, appO_lst, b_allR, b_anyR, b_listT, vK_ref, vO_lst, me1_app, recO_lst, when_t, List.append_assoc, List.length_append, List.getElem?_cons_zero, List.getElem?_cons_succ, Nat.zero_add, lim_big, lim_lt, Nat.reduceLeDiff, Nat.reduceLT, a0]) (by simp only [Dd.cv, run_eq, List.length_cons, List.length_nil, List.map_cons, List.map_nil, List.cons_append, List.nil_append, List.replicate, List.set_cons_zero, List.set_cons_succ, x_cons, x_nil, seqC_nx, seqC_rt, x_asg, asgK_nm, asgK_sub, retS_some, retH_some, sub1_eq, sub2_eq, x_expr, exK_eq, x_ret, retK_eq, x_retn, x_iff, iffK_t, iffK_f, x_fo, x_pas, x_par, runK_nx, runK_rt, bindE_some, bindL_some, bindO_some, bindI_some, bindB_some, liftB_some, retV_some, asB_bl, bin1_eq, e_bin, cmpK_eq, cmp1_eq, e_cmp, cmpR_t, cmpR_f, cmp2a_eq, e_cmp2, cmpR3_t, cmpR3_f, cmp3a_eq, e_cmp3, e_and, e_or, andK_t, andK_f, orK_t, orK_f, bOut_eq, notK_eq, e_not, negK_int, e_neg, iteK_t, iteK_f, e_ite, tupK2_eq, e_tup, lstK_eq, e_lst, e_dct0, ixK_eq, ix1_eq, e_ix, sl1_eq, sl2_eq, e_sl, e_rev, o_no, o_ex, oK_int, e_call, e_bi, e_me, s_nil, s_cons, consA_eq, consB_eq, e_lit, e_glob, e_var0, e_varS, e_comp, i_range1, i_range2, r2a_eq, i_val, vK_tup, vK_str, t_lit, t_cmp, t_cmp2, t_cmp3, t_call, t_bi, t_var, t_and, t_or, t_not, andT_t, andT_f, orT_t, orT_f, notT_eq, v_add, v_sub, c_lt, c_le, c_gt, c_ge, c_eqI, c_neI, c_eqS, c_neS, c_isN, c_isnotN, c_isB, c_isnotB, x_tup, x_lstV, sl_lstV, sl_tup, b_lenT, b_lenV, decide_true, decide_false, Bool.not_true, Bool.not_false, at0, at1, at2, at3, Nat.reduceAdd, Nat.reduceSub, Nat.reduceMul, Int.reduceAdd, Int.reduceSub, Int.reduceMul, Int.reduceNeg, Int.reduceLT, Int.reduceLE, Int.reduceToNat, Int.cast_ofNat_Int, get_at, get_at0, set_at, set_at0, v_addR, addO_ok, b_lenR, lenO_lst, x_ref, ixO_lst, sl_ref, slO_lst, set_ref, m_appR, appO_lst, b_allR, b_anyR, b_listT, vK_ref, vO_lst, me1_app, recO_lst, when_t, List.append_assoc, List.length_append, List.getElem?_cons_zero, List.getElem?_cons_succ, Nat.zero_add, lim_big, lim_lt, Nat.reduceLeDiff, Nat.reduceLT, a0]) (by simp only [Dd.cv, run_eq, List.length_cons, List.length_nil, List.map_cons, List.map_nil, List.cons_append, List.nil_append, List.replicate, List.set_cons_zero, List.set_cons_succ, x_cons, x_nil, seqC_nx, seqC_rt, x_asg, asgK_nm, asgK_sub, retS_some, retH_some, sub1_eq, sub2_eq, x_expr, exK_eq, x_ret, retK_eq, x_retn, x_iff, iffK_t, iffK_f, x_fo, x_pas, x_par, runK_nx, runK_rt, bindE_some, bindL_some, bindO_some, bindI_some, bindB_some, liftB_some, retV_some, asB_bl, bin1_eq, e_bin, cmpK_eq, cmp1_eq, e_cmp, cmpR_t, cmpR_f, cmp2a_eq, e_cmp2, cmpR3_t, cmpR3_f, cmp3a_eq, e_cmp3, e_and, e_or, andK_t, andK_f, orK_t, orK_f, bOut_eq, notK_eq, e_not, negK_int, e_neg, iteK_t, iteK_f, e_ite, tupK2_eq, e_tup, lstK_eq, e_lst, e_dct0, ixK_eq, ix1_eq, e_ix, sl1_eq, sl2_eq, e_sl, e_rev, o_no, o_ex, oK_int, e_call, e_bi, e_me, s_nil, s_cons, consA_eq, consB_eq, e_lit, e_glob, e_var0, e_varS, e_comp, i_range1, i_range2, r2a_eq, i_val, vK_tup, vK_str, t_lit, t_cmp, t_cmp2, t_cmp3, t_call, t_bi, t_var, t_and, t_or, t_not, andT_t, andT_f, orT_t, orT_f, notT_eq, v_add, v_sub, c_lt, c_le, c_gt, c_ge, c_eqI, c_neI, c_eqS, c_neS, c_isN, c_isnotN, c_isB, c_isnotB, x_tup, x_lstV, sl_lstV, sl_tup, b_lenT, b_lenV, decide_true, decide_false, Bool.not_true, Bool.not_false, at0, at1, at2, at3, Nat.reduceAdd, Nat.reduceSub, Nat.reduceMul, Int.reduceAdd, Int.reduceSub, Int.reduceMul, Int.reduceNeg, Int.reduceLT, Int.reduceLE, Int.reduceToNat, Int.cast_ofNat_Int, get_at, get_at0, set_at, set_at0, v_addR, addO_ok, b_lenR, lenO_lst, x_ref, ixO_lst, sl_ref, slO_lst, set_ref, m_appR, appO_lst, b_allR, b_anyR, b_listT, vK_ref, vO_lst, me1_app, recO_lst, when_t, List.append_assoc, List.length_append, List.getElem?_cons_zero, List.getElem?_cons_succ, Nat.zero_add, lim_big, lim_lt, Nat.reduceLeDiff, Nat.reduceLT, a0])
        have ap := m_append (v := .str d.two) g (lim_lt (by rw [List.length_map]; omega))
        rw [Dd.two, m_appR] at ap
        simp only [List.append_assoc, List.cons_append, List.nil_append] at ap e5
        refine ⟨.int (0 + (j : Int)), _, h'.set h.length (.lst ((ps ++ [d.two]).map .str)), by rw [src_ints, if_pos hj], ?_, ⟨some (.int (j : Int)), some (.bl false), some (.bl true), ps ++ [d.two], rfl, List.getElem?_set_self (lt_of g), by simp; omega, ?_⟩, o.setNew (Nat.le_refl _)⟩
        · rw [foB_nm, hz]
          simp only [in25, run_eq, List.length_cons, List.length_nil, List.map_cons, List.map_nil, List.cons_append, List.nil_append, List.replicate, List.set_cons_zero, List.set_cons_succ, x_cons, x_nil, seqC_nx, seqC_rt, x_asg, asgK_nm, asgK_sub, retS_some, retH_some, sub1_eq, sub2_eq, x_expr, exK_eq, x_ret, retK_eq, x_retn, x_iff, iffK_t, iffK_f, x_fo, x_pas, x_par, runK_nx, runK_rt, bindE_some, bindL_some, bindO_some, bindI_some, bindB_some, liftB_some, retV_some, asB_bl, bin1_eq, e_bin, cmpK_eq, cmp1_eq, e_cmp, cmpR_t, cmpR_f, cmp2a_eq, e_cmp2, cmpR3_t, cmpR3_f, cmp3a_eq, e_cmp3, e_and, e_or, andK_t, andK_f, orK_t, orK_f, bOut_eq, notK_eq, e_not, negK_int, e_neg, iteK_t, iteK_f, e_ite, tupK2_eq, e_tup, lstK_eq, e_lst, e_dct0, ixK_eq, ix1_eq, e_ix, sl1_eq, sl2_eq, e_sl, e_rev, o_no, o_ex, oK_int, e_call, e_bi, e_me, s_nil, s_cons, consA_eq, consB_eq, e_lit, e_glob, e_var0, e_varS, e_comp, i_range1, i_range2, r2a_eq, i_val, vK_tup, vK_str, t_lit, t_cmp, t_cmp2, t_cmp3, t_call, t_bi, t_var, t_and, t_or, t_not, andT_t, andT_f, orT_t, orT_f, notT_eq, v_add, v_sub, c_lt, c_le, c_gt, c_ge, c_eqI, c_neI, c_eqS, c_neS, c_isN, c_isnotN, c_isB, c_isnotB, x_tup, x_lstV, sl_lstV, sl_tup, b_lenT, b_lenV, decide_true, decide_false, Bool.not_true, Bool.not_false, at0, at1, at2, at3, Nat.reduceAdd, Nat.reduceSub, Nat.reduceMul, Int.reduceAdd, Int.reduceSub, Int.reduceMul, Int.reduceNeg, Int.reduceLT, Int.reduceLE, Int.reduceToNat, Int.cast_ofNat_Int, get_at, get_at0, set_at, set_at0, v_addR, addO_ok, b_lenR, lenO_lst, x_ref, ixO_lst, sl_ref, slO_lst, set_ref, m_appR, appO_lst, b_allR, b_anyR, b_listT, vK_ref, vO_lst, me1_app, recO_lst, when_t, List.append_assoc, List.length_append, List.getElem?_cons_zero, List.getElem?_cons_succ, Nat.zero_add, lim_big, lim_lt, Nat.reduceLeDiff, Nat.reduceLT, et, eb, hB, ht, me1_eq (r_append g), e5, ap, Dd.two, List.map_append, List.map_cons, List.map_nil]
        · rw [hps, pa, show takenAt ds (j + 1) = true from hB]
          simp
      | false =>
        rw [hB, if_neg Bool.false_ne_true] at pa
        cases ht : takenAt ds j with
        | true =>
          rw [ht, if_pos rfl] at hps
          refine ⟨.int (0 + (j : Int)), _, h', by rw [src_ints, if_pos hj], ?_, ⟨some (.int (j : Int)), some (.bl true), some (.bl false), ps, rfl, g, by omega, ?_⟩, o⟩
          · rw [foB_nm, hz]
            simp only [in25, run_eq, List.length_cons, List.length_nil, List.map_cons, List.map_nil, List.cons_append, List.nil_append, List.replicate, List.set_cons_zero, List.set_cons_succ, x_cons, x_nil, seqC_nx, seqC_rt, x_asg, asgK_nm, asgK_sub, retS_some, retH_some, sub1_eq, sub2_eq, x_expr, exK_eq, x_ret, retK_eq, x_retn, x_iff, iffK_t, iffK_f, x_fo, x_pas, x_par, runK_nx, runK_rt, bindE_some, bindL_some, bindO_some, bindI_some, bindB_some, liftB_some, retV_some, asB_bl, bin1_eq, e_bin, cmpK_eq, cmp1_eq, e_cmp, cmpR_t, cmpR_f, cmp2a_eq, e_cmp2, cmpR3_t, cmpR3_f, cmp3a_eq, e_cmp3, e_and, e_or, andK_t, andK_f, orK_t, orK_f, bOut_eq, notK_eq, e_not, negK_int, e_neg, iteK_t, iteK_f, e_ite, tupK2_eq, e_tup, lstK_eq, e_lst, e_dct0, ixK_eq, ix1_eq, e_ix, sl1_eq, sl2_eq, e_sl, e_rev, o_no, o_ex, oK_int, e_call, e_bi, e_me, s_nil, s_cons, consA_eq, consB_eq, e_lit, e_glob, e_var0, e_varS, e_comp, i_range1, i_range2, r2a_eq, i_val, vK_tup, vK_str, t_lit, t_cmp, t_cmp2, t_cmp3, t_call, t_bi, t_var, t_and, t_or, t_not, andT_t, andT_f, orT_t, orT_f, notT_eq, v_add, v_sub, c_lt, c_le, c_gt, c_ge, c_eqI, c_neI, c_eqS, c_neS, c_isN, c_isnotN, c_isB, c_isnotB, x_tup, x_lstV, sl_lstV, sl_tup, b_lenT, b_lenV, decide_true, decide_false, Bool.not_true, Bool.not_false, at0, at1, at2, at3, Nat.reduceAdd, Nat.reduceSub, Nat.reduceMul, Int.reduceAdd, Int.reduceSub, Int.reduceMul, Int.reduceNeg, Int.reduceLT, Int.reduceLE, Int.reduceToNat, Int.cast_ofNat_Int, get_at, get_at0, set_at, set_at0, v_addR, addO_ok, b_lenR, lenO_lst, x_ref, ixO_lst, sl_ref, slO_lst, set_ref, m_appR, appO_lst, b_allR, b_anyR, b_listT, vK_ref, vO_lst, me1_app, recO_lst, when_t, List.append_assoc, List.length_append, List.getElem?_cons_zero, List.getElem?_cons_succ, Nat.zero_add, lim_big, lim_lt, Nat.reduceLeDiff, Nat.reduceLT, et, eb, hB, ht]
          · rw [hps, show takenAt ds (j + 1) = false from hB]
            simp
        | false =>
          rw [ht, if_neg Bool.false_ne_true] at hps
          have ap := m_append (v := .str d.one) g (lim_lt (by rw [List.length_map]; omega))
          rw [m_appR] at ap
          refine ⟨.int (0 + (j : Int)), _, h'.set h.length (.lst ((ps ++ [d.one]).map .str)), by rw [src_ints, if_pos hj], ?_, ⟨some (.int (j : Int)), some (.bl false), some (.bl false), ps ++ [d.one], rfl, List.getElem?_set_self (lt_of g), by simp; omega, ?_⟩, o.setNew (Nat.le_refl _)⟩
          · rw [foB_nm, hz]
            simp only [in25, run_eq, List.length_cons, List.length_nil, List.map_cons, List.map_nil, List.cons_append, List.nil_append, List.replicate, List.set_cons_zero, List.set_cons_succ, x_cons, x_nil, seqC_nx, seqC_rt, x_asg, asgK_nm, asgK_sub, retS_some, retH_some, sub1_eq, sub2_eq, x_expr, exK_eq, x_ret, retK_eq, x_retn, x_iff, iffK_t, iffK_f, x_fo, x_pas, x_par, runK_nx, runK_rt, bindE_some, bindL_some, bindO_some, bindI_some, bindB_some, liftB_some, retV_some, asB_bl, bin1_eq, e_bin, cmpK_eq, cmp1_eq, e_cmp, cmpR_t, cmpR_f, cmp2a_eq, e_cmp2, cmpR3_t, cmpR3_f, cmp3a_eq, e_cmp3, e_and, e_or, andK_t, andK_f, orK_t, orK_f, bOut_eq, notK_eq, e_not, negK_int, e_neg, iteK_t, iteK_f, e_ite, tupK2_eq, e_tup, lstK_eq, e_lst, e_dct0, ixK_eq, ix1_eq, e_ix, sl1_eq, sl2_eq, e_sl, e_rev, o_no, o_ex, oK_int, e_call, e_bi, e_me, s_nil, s_cons, consA_eq, consB_eq, e_lit, e_glob, e_var0, e_varS, e_comp, i_range1, i_range2, r2a_eq, i_val, vK_tup, vK_str, t_lit, t_cmp, t_cmp2, t_cmp3, t_call, t_bi, t_var, t_and, t_or, t_not, andT_t, andT_f, orT_t, orT_f, notT_eq, v_add, v_sub, c_lt, c_le, c_gt, c_ge, c_eqI, c_neI, c_eqS, c_neS, c_isN, c_isnotN, c_isB, c_isnotB, x_tup, x_lstV, sl_lstV, sl_tup, b_lenT, b_lenV, decide_true, decide_false, Bool.not_true, Bool.not_false, at0, at1, at2, at3, Nat.reduceAdd, Nat.reduceSub, Nat.reduceMul, Int.reduceAdd, Int.reduceSub, Int.reduceMul, Int.reduceNeg, Int.reduceLT, Int.reduceLE, Int.reduceToNat, Int.cast_ofNat_Int, get_at, get_at0, set_at, set_at0, v_addR, addO_ok, b_lenR, lenO_lst, x_ref, ixO_lst, sl_ref, slO_lst, set_ref, m_appR, appO_lst, b_allR, b_anyR, b_listT, vK_ref, vO_lst, me1_app, recO_lst, when_t, List.append_assoc, List.length_append, List.getElem?_cons_zero, List.getElem?_cons_succ, Nat.zero_add, lim_big, lim_lt, Nat.reduceLeDiff, Nat.reduceLT, et, eb, hB, ht, me1_eq (r_append g), a0, h24 d h' hdj, ap, List.map_append, List.map_cons, List.map_nil]
          · rw [hps, pa, show takenAt ds (j + 1) = false from hB]
            simp)
    (fun s' h' _ => by rw [src_intsL, src_ints, if_neg (by omega)])
  rw [src_intsL] at hp hps
  subst es
  have hfin : parts ds = ps := by
    have : takenAt ds ds.length = false := by
      cases hl : ds.length with
      | zero => rfl
      | succ n =>
        show bothAt ds n = false
        unfold bothAt
        rw [List.getElem?_eq_none (show ds.length ≤ n + 1 by omega)]
        cases ds[n]? <;> rfl
    rw [this, if_neg Bool.false_ne_true, List.drop_length] at hps
    simpa [parts] using hps
  have eqp := eq_strsL (h := h' ++ [CO.lst []]) (ks := ps) (ls := []) (get_app g) get_new
  have hnil : decide (ps = []) = decide (ds = []) := by
    rw [← hfin]
    exact parts_nil ds
  rw [hnil] at eqp
  unfold in25 takenE bothE at e
  by_cases hn : ds = []
  · rw [decide_eq_true hn] at eqp
    refine ⟨h' ++ [CO.lst []], ?_, o.trans (Off.app _ _ _)⟩
    rw [show textOf ds = [45] by unfold textOf; rw [if_pos hn]]
    simp only [b25, n25, run_eq, List.length_cons, List.length_nil, List.map_cons, List.map_nil, List.cons_append, List.nil_append, List.replicate, List.set_cons_zero, List.set_cons_succ, x_cons, x_nil, seqC_nx, seqC_rt, x_asg, asgK_nm, asgK_sub, retS_some, retH_some, sub1_eq, sub2_eq, x_expr, exK_eq, x_ret, retK_eq, x_retn, x_iff, iffK_t, iffK_f, x_fo, x_pas, x_par, runK_nx, runK_rt, bindE_some, bindL_some, bindO_some, bindI_some, bindB_some, liftB_some, retV_some, asB_bl, bin1_eq, e_bin, cmpK_eq, cmp1_eq, e_cmp, cmpR_t, cmpR_f, cmp2a_eq, e_cmp2, cmpR3_t, cmpR3_f, cmp3a_eq, e_cmp3, e_and, e_or, andK_t, andK_f, orK_t, orK_f, bOut_eq, notK_eq, e_not, negK_int, e_neg, iteK_t, iteK_f, e_ite, tupK2_eq, e_tup, lstK_eq, e_lst, e_dct0, ixK_eq, ix1_eq, e_ix, sl1_eq, sl2_eq, e_sl, e_rev, o_no, o_ex, oK_int, e_call, e_bi, e_me, s_nil, s_cons, consA_eq, consB_eq, e_lit, e_glob, e_var0, e_varS, e_comp, i_range1, i_range2, r2a_eq, i_val, vK_tup, vK_str, t_lit, t_cmp, t_cmp2, t_cmp3, t_call, t_bi, t_var, t_and, t_or, t_not, andT_t, andT_f, orT_t, orT_f, notT_eq, v_add, v_sub, c_lt, c_le, c_gt, c_ge, c_eqI, c_neI, c_eqS, c_neS, c_isN, c_isnotN, c_isB, c_isnotB, x_tup, x_lstV, sl_lstV, sl_tup, b_lenT, b_lenV, decide_true, decide_false, Bool.not_true, Bool.not_false, at0, at1, at2, at3, Nat.reduceAdd, Nat.reduceSub, Nat.reduceMul, Int.reduceAdd, Int.reduceSub, Int.reduceMul, Int.reduceNeg, Int.reduceLT, Int.reduceLE, Int.reduceToNat, Int.cast_ofNat_Int, get_at, get_at0, set_at, set_at0, v_addR, addO_ok, b_lenR, lenO_lst, x_ref, ixO_lst, sl_ref, slO_lst, set_ref, m_appR, appO_lst, b_allR, b_anyR, b_listT, vK_ref, vO_lst, me1_app, recO_lst, when_t, List.append_assoc, List.length_append, List.getElem?_cons_zero, List.getElem?_cons_succ, Nat.zero_add, lim_big, lim_lt, Nat.reduceLeDiff, Nat.reduceLT, asgK_tupS, foB_tupS, foB_nm, setN_nil, setN_cons, tupS_some, bindS_some, forL_nil, forL_cons, foK_tup, foK_str, r_part, r_split, r_join, List.length_map, r1K_int sm, Int.toNat_natCast, e, c_eq eqp]
  · rw [decide_eq_false hn] at eqp
    have lj := joinS_le (t := [32]) (n := 26) (parts ds) (parts_each (P := fun p => p.length ≤ 26) (fun d => one_len) (fun d => two_len) ds hd)
    have lp := parts_len ds
    rw [hfin] at lj lp
    have ej := m_joinL (t := [32]) (get_app (t := [CO.lst []]) g) (lim_big (by
      have : ps.length * 27 ≤ 1000 * 27 := Nat.mul_le_mul_right _ (by omega)
      simp at lj ⊢; omega))
    refine ⟨h' ++ [CO.lst []], ?_, o.trans (Off.app _ _ _)⟩
    rw [show textOf ds = joinS [32] ps by unfold textOf; rw [if_neg hn, hfin]]
    simp only [b25, n25, run_eq, List.length_cons, List.length_nil, List.map_cons, List.map_nil, List.cons_append, List.nil_append, List.replicate, List.set_cons_zero, List.set_cons_succ, x_cons, x_nil, seqC_nx, seqC_rt, x_asg, asgK_nm, asgK_sub, retS_some, retH_some, sub1_eq, sub2_eq, x_expr, exK_eq, x_ret, retK_eq, x_retn, x_iff, iffK_t, iffK_f, x_fo, x_pas, x_par, runK_nx, runK_rt, bindE_some, bindL_some, bindO_some, bindI_some, bindB_some, liftB_some, retV_some, asB_bl, bin1_eq, e_bin, cmpK_eq, cmp1_eq, e_cmp, cmpR_t, cmpR_f, cmp2a_eq, e_cmp2, cmpR3_t, cmpR3_f, cmp3a_eq, e_cmp3, e_and, e_or, andK_t, andK_f, orK_t, orK_f, bOut_eq, notK_eq, e_not, negK_int, e_neg, iteK_t, iteK_f, e_ite, tupK2_eq, e_tup, lstK_eq, e_lst, e_dct0, ixK_eq, ix1_eq, e_ix, sl1_eq, sl2_eq, e_sl, e_rev, o_no, o_ex, oK_int, e_call, e_bi, e_me, s_nil, s_cons, consA_eq, consB_eq, e_lit, e_glob, e_var0, e_varS, e_comp, i_range1, i_range2, r2a_eq, i_val, vK_tup, vK_str, t_lit, t_cmp, t_cmp2, t_cmp3, t_call, t_bi, t_var, t_and, t_or, t_not, andT_t, andT_f, orT_t, orT_f, notT_eq, v_add, v_sub, c_lt, c_le, c_gt, c_ge, c_eqI, c_neI, c_eqS, c_neS, c_isN, c_isnotN, c_isB, c_isnotB, x_tup, x_lstV, sl_lstV, sl_tup, b_lenT, b_lenV, decide_true, decide_false, Bool.not_true, Bool.not_false, at0, at1, at2, at3, Nat.reduceAdd, Nat.reduceSub, Nat.reduceMul, Int.reduceAdd, Int.reduceSub, Int.reduceMul, Int.reduceNeg, Int.reduceLT, Int.reduceLE, Int.reduceToNat, Int.cast_ofNat_Int, get_at, get_at0, set_at, set_at0, v_addR, addO_ok, b_lenR, lenO_lst, x_ref, ixO_lst, sl_ref, slO_lst, set_ref, m_appR, appO_lst, b_allR, b_anyR, b_listT, vK_ref, vO_lst, me1_app, recO_lst, when_t, List.append_assoc, List.length_append, List.getElem?_cons_zero, List.getElem?_cons_succ, Nat.zero_add, lim_big, lim_lt, Nat.reduceLeDiff, Nat.reduceLT, asgK_tupS, foB_tupS, foB_nm, setN_nil, setN_cons, tupS_some, bindS_some, forL_nil, forL_cons, foK_tup, foK_str, r_part, r_split, r_join, List.length_map, r1K_int sm, Int.toNat_natCast, e, c_eq eqp, me1_eq r_join, ej]
theorem run_alone (F : Fns) (W : Nat) (h24 : ∀ (d : Dd) (h : CH), d.ok → F 24 [d.cv] h = some (.str d.one, h)) {h : CH} {ds : List Dd} (hd : ∀ d ∈ ds, d.ok) (hl : ds.length ≤ 1000) :
    ∃ h', runC F W n26.length b26 [.tup (ds.map Dd.cv)] h = some (.str (if ds = [] then [45] else joinS [32] (ds.map Dd.one)), h') ∧ Off [] h h' := by
  have eq := eq_rows (h := h) (ds := ds) (es := [])
  by_cases hn : ds = []
  · subst hn
    refine ⟨h, ?_, .refl _ _⟩
    simp only [List.map_nil] at eq ⊢
    simp only [b26, n26, run_eq, List.length_cons, List.length_nil, List.map_cons, List.map_nil, List.cons_append, List.nil_append, List.replicate, List.set_cons_zero, List.set_cons_succ, x_cons, x_nil, seqC_nx, seqC_rt, x_asg, asgK_nm, asgK_sub, retS_some, retH_some, sub1_eq, sub2_eq, x_expr, exK_eq, x_ret, retK_eq, x_retn, x_iff, iffK_t, iffK_f, x_fo, x_pas, x_par, runK_nx, runK_rt, bindE_some, bindL_some, bindO_some, bindI_some, bindB_some, liftB_some, retV_some, asB_bl, bin1_eq, e_bin, cmpK_eq, cmp1_eq, e_cmp, cmpR_t, cmpR_f, cmp2a_eq, e_cmp2, cmpR3_t, cmpR3_f, cmp3a_eq, e_cmp3, e_and, e_or, andK_t, andK_f, orK_t, orK_f, bOut_eq, notK_eq, e_not, negK_int, e_neg, iteK_t, iteK_f, e_ite, tupK2_eq, e_tup, lstK_eq, e_lst, e_dct0, ixK_eq, ix1_eq, e_ix, sl1_eq, sl2_eq, e_sl, e_rev, o_no, o_ex, oK_int, e_call, e_bi, e_me, s_nil, s_cons, consA_eq, consB_eq, e_lit, e_glob, e_var0, e_varS, e_comp, i_range1, i_range2, r2a_eq, i_val, vK_tup, vK_str, t_lit, t_cmp, t_cmp2, t_cmp3, t_call, t_bi, t_var, t_and, t_or, t_not, andT_t, andT_f, orT_t, orT_f, notT_eq, v_add, v_sub, c_lt, c_le, c_gt, c_ge, c_eqI, c_neI, c_eqS, c_neS, c_isN, c_isnotN, c_isB, c_isnotB, x_tup, x_lstV, sl_lstV, sl_tup, b_lenT, b_lenV, decide_true, decide_false, Bool.not_true, Bool.not_false, at0, at1, at2, at3, Nat.reduceAdd, Nat.reduceSub, Nat.reduceMul, Int.reduceAdd, Int.reduceSub, Int.reduceMul, Int.reduceNeg, Int.reduceLT, Int.reduceLE, Int.reduceToNat, Int.cast_ofNat_Int, get_at, get_at0, set_at, set_at0, v_addR, addO_ok, b_lenR, lenO_lst, x_ref, ixO_lst, sl_ref, slO_lst, set_ref, m_appR, appO_lst, b_allR, b_anyR, b_listT, vK_ref, vO_lst, me1_app, recO_lst, when_t, List.append_assoc, List.length_append, List.getElem?_cons_zero, List.getElem?_cons_succ, Nat.zero_add, lim_big, lim_lt, Nat.reduceLeDiff, Nat.reduceLT, c_eq eq, if_true]
  · rw [decide_eq_false hn] at eq
    simp only [List.map_nil] at eq
    have ec := comp_all (F := F) (s := [some (.tup (ds.map Dd.cv)), none]) (h := h) (elt := .call 24 (.cons (.var 1) .nil)) (i := 1) (src := .tup (ds.map Dd.cv)) (xs := ds.map Dd.cv)
      (fun x => match x with | .tup [.str k, .str a, .str b, .str c] => .str (Dd.one ⟨decide (k = kSend), a, b, c⟩) | x => x) (fun i => src_tup) src_tupL (by rw [List.length_map]; exact lim_big (by omega)) (fun x hx => by
        obtain ⟨d, hd', rfl⟩ := List.mem_map.mp hx
        have hk : decide (kd d.s = kSend) = d.s := kd_send
        simp only [run_eq, List.length_cons, List.length_nil, List.map_cons, List.map_nil, List.cons_append, List.nil_append, List.replicate, List.set_cons_zero, List.set_cons_succ, x_cons, x_nil, seqC_nx, seqC_rt, x_asg, asgK_nm, asgK_sub, retS_some, retH_some, sub1_eq, sub2_eq, x_expr, exK_eq, x_ret, retK_eq, x_retn, x_iff, iffK_t, iffK_f, x_fo, x_pas, x_par, runK_nx, runK_rt, bindE_some, bindL_some, bindO_some, bindI_some, bindB_some, liftB_some, retV_some, asB_bl, bin1_eq, e_bin, cmpK_eq, cmp1_eq, e_cmp, cmpR_t, cmpR_f, cmp2a_eq, e_cmp2, cmpR3_t, cmpR3_f, cmp3a_eq, e_cmp3, e_and, e_or, andK_t, andK_f, orK_t, orK_f, bOut_eq, notK_eq, e_not, negK_int, e_neg, iteK_t, iteK_f, e_ite, tupK2_eq, e_tup, lstK_eq, e_lst, e_dct0, ixK_eq, ix1_eq, e_ix, sl1_eq, sl2_eq, e_sl, e_rev, o_no, o_ex, oK_int, e_call, e_bi, e_me, s_nil, s_cons, consA_eq, consB_eq, e_lit, e_glob, e_var0, e_varS, e_comp, i_range1, i_range2, r2a_eq, i_val, vK_tup, vK_str, t_lit, t_cmp, t_cmp2, t_cmp3, t_call, t_bi, t_var, t_and, t_or, t_not, andT_t, andT_f, orT_t, orT_f, notT_eq, v_add, v_sub, c_lt, c_le, c_gt, c_ge, c_eqI, c_neI, c_eqS, c_neS, c_isN, c_isnotN, c_isB, c_isnotB, x_tup, x_lstV, sl_lstV, sl_tup, b_lenT, b_lenV, decide_true, decide_false, Bool.not_true, Bool.not_false, at0, at1, at2, at3, Nat.reduceAdd, Nat.reduceSub, Nat.reduceMul, Int.reduceAdd, Int.reduceSub, Int.reduceMul, Int.reduceNeg, Int.reduceLT, Int.reduceLE, Int.reduceToNat, Int.cast_ofNat_Int, get_at, get_at0, set_at, set_at0, v_addR, addO_ok, b_lenR, lenO_lst, x_ref, ixO_lst, sl_ref, slO_lst, set_ref, m_appR, appO_lst, b_allR, b_anyR, b_listT, vK_ref, vO_lst, me1_app, recO_lst, when_t, List.append_assoc, List.length_append, List.getElem?_cons_zero, List.getElem?_cons_succ, Nat.zero_add, lim_big, lim_lt, Nat.reduceLeDiff, Nat.reduceLT, h24 d h (hd d hd')]
        simp only [Dd.cv, hk])
    have em : (ds.map Dd.cv).map (fun x => match x with | .tup [.str k, .str a, .str b, .str c] => .str (Dd.one ⟨decide (k = kSend), a, b, c⟩) | x => x) = (ds.map Dd.one).map CV.str := by
      rw [List.map_map, List.map_map]
      refine List.map_congr_left fun d _ => ?_
      have hk : decide (kd d.s = kSend) = d.s := kd_send
      simp only [Function.comp, Dd.cv, hk]
    rw [em] at ec
    have lj := joinS_le (t := [32]) (n := 26) (ds.map Dd.one) (fun p hp => by
      obtain ⟨d, hd', rfl⟩ := List.mem_map.mp hp
      exact one_len (hd d hd'))
    have ej := m_joinL (t := [32]) (get_new (h := h) (o := CO.lst ((ds.map Dd.one).map CV.str))) (lim_big (by
      have : ds.length * 27 ≤ 1000 * 27 := Nat.mul_le_mul_right _ (by omega)
      simp at lj ⊢; omega))
    refine ⟨h ++ [CO.lst ((ds.map Dd.one).map CV.str)], ?_, Off.app _ _ _⟩
    simp only [b26, n26, run_eq, List.length_cons, List.length_nil, List.map_cons, List.map_nil, List.cons_append, List.nil_append, List.replicate, List.set_cons_zero, List.set_cons_succ, x_cons, x_nil, seqC_nx, seqC_rt, x_asg, asgK_nm, asgK_sub, retS_some, retH_some, sub1_eq, sub2_eq, x_expr, exK_eq, x_ret, retK_eq, x_retn, x_iff, iffK_t, iffK_f, x_fo, x_pas, x_par, runK_nx, runK_rt, bindE_some, bindL_some, bindO_some, bindI_some, bindB_some, liftB_some, retV_some, asB_bl, bin1_eq, e_bin, cmpK_eq, cmp1_eq, e_cmp, cmpR_t, cmpR_f, cmp2a_eq, e_cmp2, cmpR3_t, cmpR3_f, cmp3a_eq, e_cmp3, e_and, e_or, andK_t, andK_f, orK_t, orK_f, bOut_eq, notK_eq, e_not, negK_int, e_neg, iteK_t, iteK_f, e_ite, tupK2_eq, e_tup, lstK_eq, e_lst, e_dct0, ixK_eq, ix1_eq, e_ix, sl1_eq, sl2_eq, e_sl, e_rev, o_no, o_ex, oK_int, e_call, e_bi, e_me, s_nil, s_cons, consA_eq, consB_eq, e_lit, e_glob, e_var0, e_varS, e_comp, i_range1, i_range2, r2a_eq, i_val, vK_tup, vK_str, t_lit, t_cmp, t_cmp2, t_cmp3, t_call, t_bi, t_var, t_and, t_or, t_not, andT_t, andT_f, orT_t, orT_f, notT_eq, v_add, v_sub, c_lt, c_le, c_gt, c_ge, c_eqI, c_neI, c_eqS, c_neS, c_isN, c_isnotN, c_isB, c_isnotB, x_tup, x_lstV, sl_lstV, sl_tup, b_lenT, b_lenV, decide_true, decide_false, Bool.not_true, Bool.not_false, at0, at1, at2, at3, Nat.reduceAdd, Nat.reduceSub, Nat.reduceMul, Int.reduceAdd, Int.reduceSub, Int.reduceMul, Int.reduceNeg, Int.reduceLT, Int.reduceLE, Int.reduceToNat, Int.cast_ofNat_Int, get_at, get_at0, set_at, set_at0, v_addR, addO_ok, b_lenR, lenO_lst, x_ref, ixO_lst, sl_ref, slO_lst, set_ref, m_appR, appO_lst, b_allR, b_anyR, b_listT, vK_ref, vO_lst, me1_app, recO_lst, when_t, List.append_assoc, List.length_append, List.getElem?_cons_zero, List.getElem?_cons_succ, Nat.zero_add, lim_big, lim_lt, Nat.reduceLeDiff, Nat.reduceLT, asgK_tupS, foB_tupS, foB_nm, setN_nil, setN_cons, tupS_some, bindS_some, forL_nil, forL_cons, foK_tup, foK_str, r_part, r_split, r_join, c_eq eq, hn, if_false, me1_eq r_join, ec, ej]
end TH

namespace TH
open PySem
theorem run_anyrowM (F : Fns) (W : Nat) (hD : Draws F) (m : Nat) (hm : m ≤ 100) {h : CH} {p r w : Nat} {ks ws : List (List Nat)} (hp : Pool h p) (gr : h[r]? = some (.lst (ks.map .str))) (gw : h[w]? = some (.lst (ws.map .str)))
    (hrp : r ≠ p) (hwp : w ≠ p) (nd : ks.Nodup) (hk : ∀ k ∈ ks, Nm k) (hw : ∀ k ∈ ws, Nm k) (l1 : 2 ≤ ks.length) (l2 : ks.length < 26) (l3 : 0 < ws.length) (l4 : ws.length < 26) :
    ∃ xs h', runC F W n13.length b13 [.ref p, .ref r, .ref w, .int (m : Int)] h = some (.tup xs, h') ∧ (∀ x ∈ xs, DeedIn (ks ++ ws) x) ∧ xs.length ≤ m ∧ Off [p] h h' ∧ Pool h' p := by
  have hpl := hp.lt
  have hrl := lt_of gr
  have hwl := lt_of gw
  obtain ⟨n, h1, e1, n0, n1, o1, p1⟩ := hD (h ++ [.lst []]) p ((m : Int) + 1) (hp.keep (Off.app [] _ _) (by simp)) (by omega) (by omega)
  have sm : small62 n = true := by unfold small62; simp only [Bool.and_eq_true, decide_eq_true_eq]; omega
  have oh : Off [p] h h1 := (Off.app _ _ _).trans o1
  have gq : h1[h.length]? = some (.lst []) := o1.get get_new (by simp; omega)
  obtain ⟨s', h', e, x5, x6, x7, x8, x9, xs, rfl, g, hx, hl, o, p'⟩ := foK_inv (F := F) (W := W) (s := [some (.ref p), some (.ref r), some (.ref w), some (.int (m : Int)), some (.ref h.length), none, none, none, none, none, none]) (h := h1) (t := .nm 5) (b := turn13) (src := .ints 0 n.toNat)
    (fun j s' h' => ∃ (x5 x6 x7 x8 x9 : Option CV) (xs : List CV), s' = [some (.ref p), some (.ref r), some (.ref w), some (.int (m : Int)), some (.ref h.length), x5, x6, x7, x8, x9, none] ∧ h'[h.length]? = some (.lst xs) ∧ (∀ x ∈ xs, DeedIn (ks ++ ws) x) ∧ xs.length ≤ 2 * j ∧ Off [p, h.length] h1 h' ∧ Pool h' p)
    ⟨none, none, none, none, none, [], rfl, gq, (fun x hx => by cases hx), by simp, .refl _ _, p1⟩
    (fun j s' h' hj hi => by
      rw [src_intsL] at hj
      obtain ⟨x5, x6, x7, x8, x9, xs, rfl, g, hx, hl, o, p'⟩ := hi
      have gr' := o.get (oh.get gr (by simpa using hrp)) (by simp; exact ⟨hrp, by omega⟩)
      have gw' := o.get (oh.get gw (by simpa using hwp)) (by simp; exact ⟨hwp, by omega⟩)
      obtain ⟨y5, y6, y7, y8, y9, ys, h2, e2, g2, hy, hyl, o2, p2⟩ := run_turn F W hD (x3 := some (.int (m : Int))) (x5 := some (.int (0 + (j : Int)))) (x6 := x6) (x7 := x7) (x8 := x8) (x9 := x9) p' gr' gw' g hrp hwp (by omega) (by omega) (by omega) nd hk hw l1 l2 l3 l4 (by omega)
      refine ⟨.int (0 + (j : Int)), _, h2, by rw [src_ints, if_pos hj], by rw [foB_nm]; exact e2, y5, y6, y7, y8, y9, xs ++ ys, rfl, g2, fun x hx' => ?_, by simp; omega, o.trans o2, p2⟩
      rcases List.mem_append.mp hx' with h | h
      · exact hx x h
      · exact hy x h)
    (fun s' h' _ => by rw [src_intsL, src_ints, if_neg (by omega)])
  have ec : cut xs none (some (m : Int)) = xs.take m := cut_to xs m
  refine ⟨xs.take m, h' ++ [CO.lst (xs.take m)], ?_, fun x hx' => hx x (List.mem_of_mem_take hx'), by simp; omega, ?_, p'.keep (Off.app [] _ _) (by simp)⟩
  · unfold turn13 at e
    simp only [b13, n13, run_eq, List.length_cons, List.length_nil, List.map_cons, List.map_nil, List.cons_append, List.nil_append, List.replicate, List.set_cons_zero, List.set_cons_succ, x_cons, x_nil, seqC_nx, seqC_rt, x_asg, asgK_nm, asgK_sub, retS_some, retH_some, sub1_eq, sub2_eq, x_expr, exK_eq, x_ret, retK_eq, x_retn, x_iff, iffK_t, iffK_f, x_fo, x_pas, x_par, runK_nx, runK_rt, bindE_some, bindL_some, bindO_some, bindI_some, bindB_some, liftB_some, retV_some, asB_bl, bin1_eq, e_bin, cmpK_eq, cmp1_eq, e_cmp, cmpR_t, cmpR_f, cmp2a_eq, e_cmp2, cmpR3_t, cmpR3_f, cmp3a_eq, e_cmp3, e_and, e_or, andK_t, andK_f, orK_t, orK_f, bOut_eq, notK_eq, e_not, negK_int, e_neg, iteK_t, iteK_f, e_ite, tupK2_eq, e_tup, lstK_eq, e_lst, e_dct0, ixK_eq, ix1_eq, e_ix, sl1_eq, sl2_eq, e_sl, e_rev, o_no, o_ex, oK_int, e_call, e_bi, e_me, s_nil, s_cons, consA_eq, consB_eq, e_lit, e_glob, e_var0, e_varS, e_comp, i_range1, i_range2, r2a_eq, i_val, vK_tup, vK_str, t_lit, t_cmp, t_cmp2, t_cmp3, t_call, t_bi, t_var, t_and, t_or, t_not, andT_t, andT_f, orT_t, orT_f, notT_eq, v_add, v_sub, c_lt, c_le, c_gt, c_ge, c_eqI, c_neI, c_eqS, c_neS, c_isN, c_isnotN, c_isB, c_isnotB, x_tup, x_lstV, sl_lstV, sl_tup, b_lenT, b_lenV, decide_true, decide_false, Bool.not_true, Bool.not_false, at0, at1, at2, at3, Nat.reduceAdd, Nat.reduceSub, Nat.reduceMul, Int.reduceAdd, Int.reduceSub, Int.reduceMul, Int.reduceNeg, Int.reduceLT, Int.reduceLE, Int.reduceToNat, Int.cast_ofNat_Int, e1, r1K_int sm, e, sl_lst g, ec, b_tupL get_new]
  · refine ⟨?_, fun i hi hs => ?_⟩
    · exact Nat.le_trans oh.len (Nat.le_trans o.len (by simp))
    · rw [List.getElem?_append_left (Nat.lt_of_lt_of_le hi (Nat.le_trans oh.len o.len)), o.at' i (Nat.lt_of_lt_of_le hi oh.len) (by simp at hs ⊢; exact ⟨hs, by omega⟩), oh.at' i hi hs]
/-! ### k03 -/
def out27 : CSs := (.cons (.asg (.nm 2) (.call 4 (.cons (.var 1) .nil))) (.cons (.asg (.nm 3) (.call 7 (.cons (.var 2) (.cons (.bin .add (.lit (.int 2)) (.call 5 (.cons (.var 2) (.cons (.lit (.int 3)) .nil)))) .nil)))) (.cons (.asg (.nm 4) (.call 7 (.cons (.var 2) (.cons (.bin .add (.lit (.int 1)) (.call 5 (.cons (.var 2) (.cons (.lit (.int 3)) .nil)))) .nil)))) (.cons (.asg (.nm 5) (.call 13 (.cons (.var 2) (.cons (.var 3) (.cons (.var 4) (.cons (.lit (.int 32)) .nil)))))) (.cons (.asg (.nm 6) (.call 25 (.cons (.var 5) .nil))) (.cons (.asg (.nm 7) (.call 23 (.cons (.var 6) .nil))) (.cons (.iff (.or (.cmp .ne (.call 20 (.cons (.var 5) .nil)) (.var 6)) (.or (.cmp .ne (.var 7) (.var 5)) (.not (.bi (.isi .tup) (.cons (.var 7) .nil))))) (.cons (.ret (.lit (.bl false))) .nil) .nil) (.cons (.iff (.or (.not (.bi .all (.cons (.comp (.bi (.isi .tup) (.cons (.var 8) .nil)) 8 (.val (.var 7)) (.lit (.bl true))) .nil))) (.cmp .ne (.call 20 (.cons (.var 7) .nil)) (.var 6))) (.cons (.ret (.lit (.bl false))) .nil) .nil) (.cons (.iff (.cmp .ne (.call 23 (.cons (.call 26 (.cons (.var 5) .nil)) .nil)) (.var 5)) (.cons (.ret (.lit (.bl false))) .nil) .nil) .nil)))))))))
structure Hs (F : Fns) : Prop where
  pool : ∀ (h : CH) (i : Int), ∃ h', F 4 [.int i] h = some (.ref h.length, h') ∧ Off [] h h' ∧ Pool h' h.length
  draw : Draws F
  hands : ∀ (h : CH) (p : Nat) (n : Int), Pool h p → 0 ≤ n → n < 26 → ∃ (ks : List (List Nat)) (h' : CH), F 7 [.ref p, .int n] h = some (.ref h.length, h') ∧ h'[h.length]? = some (.lst (ks.map CV.str)) ∧ ks.length = n.toNat ∧ ks.Nodup ∧ (∀ k ∈ ks, Nm k) ∧ Off [p] h h' ∧ Pool h' p
  any : ∀ (h : CH) (p r w : Nat) (ks ws : List (List Nat)), Pool h p → h[r]? = some (.lst (ks.map .str)) → h[w]? = some (.lst (ws.map .str)) → r ≠ p → w ≠ p → ks.Nodup → (∀ k ∈ ks, Nm k) → (∀ k ∈ ws, Nm k) → 2 ≤ ks.length → ks.length < 26 → 0 < ws.length → ws.length < 26 →
    ∃ xs h', F 13 [.ref p, .ref r, .ref w, .int 32] h = some (.tup xs, h') ∧ (∀ x ∈ xs, DeedOf x) ∧ xs.length ≤ 32 ∧ Off [p] h h' ∧ Pool h' p
  text : ∀ (h : CH) (ds : List Dd), (∀ d ∈ ds, d.ok) → ds.length ≤ 1000 → ∃ h', F 25 [.tup (ds.map Dd.cv)] h = some (.str (textOf ds), h') ∧ Off [] h h'
  alone : ∀ (h : CH) (ds : List Dd), (∀ d ∈ ds, d.ok) → ds.length ≤ 1000 → ∃ h', F 26 [.tup (ds.map Dd.cv)] h = some (.str (if ds = [] then [45] else joinS [32] (ds.map Dd.one)), h') ∧ Off [] h h'
  show' : ∀ (h : CH) (ds : List Dd), (∀ d ∈ ds, d.ok) → ds.length ≤ 1000 → ∃ h', F 20 [.tup (ds.map Dd.cv)] h = some (.str (textOf ds), h') ∧ Off [] h h'
  read : ∀ (h : CH) (qs : List Pq), (∀ q ∈ qs, Pq.ok q) → qs ≠ [] → qs.length ≤ 1000 → ∃ h', F 23 [.str (joinS [32] (qs.map Pq.text))] h = some (.tup ((qs.map Pq.rows).flatten.map Dd.cv), h') ∧ Off [] h h'
  read0 : ∀ (h : CH), F 23 [.str [45]] h = some (.tup [], h)
theorem alone_rows : ∀ ds : List Dd, ((ds.map fun d => ((false, d) : Pq)).map Pq.rows).flatten = ds
  | [] => rfl
  | d :: ds => by rw [List.map_cons, List.map_cons, List.flatten_cons, alone_rows ds]; rfl
theorem out27_ok (F : Fns) (W : Nat) (H : Hs F) {h : CH} {i : Int} {x0 x2 x3 x4 x5 x6 x7 : Option CV} :
    ∃ s2 h', execCs F W out27 [x0, some (.int i), x2, x3, x4, x5, x6, x7, none] h = some (.nx, s2, h') ∧ (∃ y1 y2 y3 y4 y5 y6 y7, s2 = [x0, y1, y2, y3, y4, y5, y6, y7, none]) ∧ Off [] h h' := by
  obtain ⟨h1, e1, o1, q1⟩ := H.pool h i
  obtain ⟨n2, h2, e2, n20, n21, o2, q2⟩ := H.draw h1 h.length 3 q1 (by decide) (by decide)
  obtain ⟨ks, h3, e3, g3, l3, nd3, nm3, o3, q3⟩ := H.hands h2 h.length (2 + n2) q2 (by omega) (by omega)
  obtain ⟨n4, h4, e4, n40, n41, o4, q4⟩ := H.draw h3 h.length 3 q3 (by decide) (by decide)
  obtain ⟨ws, h5, e5, g5, l5, nd5, nm5, o5, q5⟩ := H.hands h4 h.length (1 + n4) q4 (by omega) (by omega)
  have p1 := q1.lt
  have p2 := o2.len
  have p4 := o4.len
  have p3 := o3.len
  have g3' := o5.get (o4.get g3 (by simp; omega)) (by simp; omega)
  obtain ⟨xs, h6, e6, hx, hl, o6, q6⟩ := H.any h5 h.length h2.length h4.length ks ws q5 g3' g5 (by omega) (by omega) nd3 nm3 nm5 (by omega) (by omega) (by omega) (by omega)
  obtain ⟨ds, rfl, hd⟩ := dd_list hx
  rw [List.length_map] at hl
  obtain ⟨h7, e7, o7⟩ := H.text h6 ds hd (by omega)
  -- read again
  have rd : ∀ h : CH, ∃ h', F 23 [.str (textOf ds)] h = some (.tup (ds.map Dd.cv), h') ∧ Off [] h h' := by
    intro h
    by_cases hn : ds = []
    · subst hn
      exact ⟨h, H.read0 h, .refl _ _⟩
    · obtain ⟨h', e, o⟩ := H.read h (partsQ ds) (partsQ_ok ds hd) (fun z => hn (by
        have := partsQ_rows ds
        rw [z] at this
        exact this.symm)) (by have := partsQ_len ds; omega)
      rw [partsQ_text, partsQ_rows] at e
      refine ⟨h', ?_, o⟩
      unfold textOf
      rw [if_neg hn]
      exact e
  have rd2 : ∀ h : CH, ∃ h', F 23 [.str (if ds = [] then [45] else joinS [32] (ds.map Dd.one))] h = some (.tup (ds.map Dd.cv), h') ∧ Off [] h h' := by
    intro h
    by_cases hn : ds = []
    · subst hn
      exact ⟨h, H.read0 h, .refl _ _⟩
    · obtain ⟨h', e, o⟩ := H.read h (ds.map fun d => (false, d)) (fun q hq => by
        obtain ⟨d, hd', rfl⟩ := List.mem_map.mp hq
        exact ⟨hd d hd', fun e => by cases e⟩) (by simpa using hn) (by rw [List.length_map]; omega)
      have a1 : (ds.map fun d => ((false, d) : Pq)).map Pq.text = ds.map Dd.one := by rw [List.map_map]; rfl
      have a2 := alone_rows ds
      rw [a1, a2] at e
      refine ⟨h', ?_, o⟩
      rw [if_neg hn]
      exact e
  obtain ⟨h8, e8, o8⟩ := rd h7
  obtain ⟨h9, e9, o9⟩ := H.show' h8 ds hd (by omega)
  have eqr : ∀ h, eqV h (.tup (ds.map Dd.cv)) (.tup (ds.map Dd.cv)) = some true := fun h => by rw [eq_rows]; simp
  have ec := comp_all (F := F) (s := [x0, some (.int i), some (.ref h.length), some (.ref h2.length), some (.ref h4.length), some (.tup (ds.map Dd.cv)), some (.str (textOf ds)), some (.tup (ds.map Dd.cv)), none]) (h := h9) (elt := .bi (.isi .tup) (.cons (.var 8) .nil)) (i := 8) (src := .tup (ds.map Dd.cv)) (xs := ds.map Dd.cv)
    (fun _ => .bl true) (fun i => src_tup) src_tupL (by rw [List.length_map]; exact lim_big (by omega)) (fun x hx => by
      obtain ⟨d, hd', rfl⟩ := List.mem_map.mp hx
      have t : biV (.isi .tup) [d.cv] h9 = some (.bl true, h9) := b_isi (b := true) rfl
      simp only [run_eq, List.length_cons, List.length_nil, List.map_cons, List.map_nil, List.cons_append, List.nil_append, List.replicate, List.set_cons_zero, List.set_cons_succ, x_cons, x_nil, seqC_nx, seqC_rt, x_asg, asgK_nm, asgK_sub, retS_some, retH_some, sub1_eq, sub2_eq, x_expr, exK_eq, x_ret, retK_eq, x_retn, x_iff, iffK_t, iffK_f, x_fo, x_pas, x_par, runK_nx, runK_rt, bindE_some, bindL_some, bindO_some, bindI_some, bindB_some, liftB_some, retV_some, asB_bl, bin1_eq, e_bin, cmpK_eq, cmp1_eq, e_cmp, cmpR_t, cmpR_f, cmp2a_eq, e_cmp2, cmpR3_t, cmpR3_f, cmp3a_eq, e_cmp3, e_and, e_or, andK_t, andK_f, orK_t, orK_f, bOut_eq, notK_eq, e_not, negK_int, e_neg, iteK_t, iteK_f, e_ite, tupK2_eq, e_tup, lstK_eq, e_lst, e_dct0, ixK_eq, ix1_eq, e_ix, sl1_eq, sl2_eq, e_sl, e_rev, o_no, o_ex, oK_int, e_call, e_bi, e_me, s_nil, s_cons, consA_eq, consB_eq, e_lit, e_glob, e_var0, e_varS, e_comp, i_range1, i_range2, r2a_eq, i_val, vK_tup, vK_str, t_lit, t_cmp, t_cmp2, t_cmp3, t_call, t_bi, t_var, t_and, t_or, t_not, andT_t, andT_f, orT_t, orT_f, notT_eq, v_add, v_sub, c_lt, c_le, c_gt, c_ge, c_eqI, c_neI, c_eqS, c_neS, c_isN, c_isnotN, c_isB, c_isnotB, x_tup, x_lstV, sl_lstV, sl_tup, b_lenT, b_lenV, decide_true, decide_false, Bool.not_true, Bool.not_false, t])
  have em : (ds.map Dd.cv).map (fun _ => CV.bl true) = (ds.map fun _ => true).map CV.bl := by rw [List.map_map, List.map_map]; rfl
  rw [em] at ec
  have ea := b_all (get_new (h := h9) (o := CO.lst ((ds.map fun _ => true).map CV.bl)))
  have ett : (ds.map fun _ => true).all id = true := by simp
  rw [ett] at ea
  obtain ⟨h11, e11, o11⟩ := H.show' (h9 ++ [CO.lst ((ds.map fun _ => true).map CV.bl)]) ds hd (by omega)
  obtain ⟨h12, e12, o12⟩ := H.alone h11 ds hd (by omega)
  obtain ⟨h13, e13, o13⟩ := rd2 h12
  have tt : ∀ h, Typ h (.tup (ds.map Dd.cv)) := fun _ => trivial
  refine ⟨[x0, some (.int i), some (.ref h.length), some (.ref h2.length), some (.ref h4.length), some (.tup (ds.map Dd.cv)), some (.str (textOf ds)), some (.tup (ds.map Dd.cv)), none], h13, ?_, ⟨_, _, _, _, _, _, _, rfl⟩, ?_⟩
  · simp only [out27, run_eq, List.length_cons, List.length_nil, List.map_cons, List.map_nil, List.cons_append, List.nil_append, List.replicate, List.set_cons_zero, List.set_cons_succ, x_cons, x_nil, seqC_nx, seqC_rt, x_asg, asgK_nm, asgK_sub, retS_some, retH_some, sub1_eq, sub2_eq, x_expr, exK_eq, x_ret, retK_eq, x_retn, x_iff, iffK_t, iffK_f, x_fo, x_pas, x_par, runK_nx, runK_rt, bindE_some, bindL_some, bindO_some, bindI_some, bindB_some, liftB_some, retV_some, asB_bl, bin1_eq, e_bin, cmpK_eq, cmp1_eq, e_cmp, cmpR_t, cmpR_f, cmp2a_eq, e_cmp2, cmpR3_t, cmpR3_f, cmp3a_eq, e_cmp3, e_and, e_or, andK_t, andK_f, orK_t, orK_f, bOut_eq, notK_eq, e_not, negK_int, e_neg, iteK_t, iteK_f, e_ite, tupK2_eq, e_tup, lstK_eq, e_lst, e_dct0, ixK_eq, ix1_eq, e_ix, sl1_eq, sl2_eq, e_sl, e_rev, o_no, o_ex, oK_int, e_call, e_bi, e_me, s_nil, s_cons, consA_eq, consB_eq, e_lit, e_glob, e_var0, e_varS, e_comp, i_range1, i_range2, r2a_eq, i_val, vK_tup, vK_str, t_lit, t_cmp, t_cmp2, t_cmp3, t_call, t_bi, t_var, t_and, t_or, t_not, andT_t, andT_f, orT_t, orT_f, notT_eq, v_add, v_sub, c_lt, c_le, c_gt, c_ge, c_eqI, c_neI, c_eqS, c_neS, c_isN, c_isnotN, c_isB, c_isnotB, x_tup, x_lstV, sl_lstV, sl_tup, b_lenT, b_lenV, decide_true, decide_false, Bool.not_true, Bool.not_false, at0, at1, at2, at3, Nat.reduceAdd, Nat.reduceSub, Nat.reduceMul, Int.reduceAdd, Int.reduceSub, Int.reduceMul, Int.reduceNeg, Int.reduceLT, Int.reduceLE, Int.reduceToNat, Int.cast_ofNat_Int, get_at, get_at0, set_at, set_at0, v_addR, addO_ok, b_lenR, lenO_lst, x_ref, ixO_lst, sl_ref, slO_lst, set_ref, m_appR, appO_lst, b_allR, b_anyR, b_listT, vK_ref, vO_lst, me1_app, recO_lst, when_t, List.append_assoc, List.length_append, List.getElem?_cons_zero, List.getElem?_cons_succ, Nat.zero_add, lim_big, lim_lt, Nat.reduceLeDiff, Nat.reduceLT, e1, e2, e3, e4, e5, e6, e7, e8, e9, c_ne (eqV_str _ _ _), c_ne (eqr _), b_isi (i_tup (tt _)), isTup, ec, ea, e11, e12, e13, beq_self_eq_true]
  · have z1 : Off [h.length] h1 h6 := o2.trans (o3.trans (o4.trans (o5.trans o6)))
    have z2 : Off [h.length] h6 h13 := Off.mono ((o7.trans (o8.trans o9)).trans ((Off.app [] _ _).trans (o11.trans (o12.trans o13)))) (fun x hx => by cases hx)
    exact o1.drop (z1.trans z2) (Nat.le_refl _)
theorem law_k03 (F : Fns) (W : Nat) (H : Hs F) (ns : List Int) (h : CH) : ∃ h', runC F W n27.length b27 [.lst (ns.map CV.int)] h = some (.bl true, h') := by
  have ec : cut (ns.map CV.int) none (some 10) = (ns.take 10).map CV.int := by rw [List.map_take]; exact cut_to (ns.map CV.int) 10
  have hl : (ns.take 10).length ≤ 10 := by rw [List.length_take]; omega
  have hlim : 1 + (ns.take 10).length ≤ lim := lim_big (by omega)
  have g : (h ++ [CO.lst [.int 0], .lst ((ns.take 10).map CV.int), .lst (CV.int 0 :: (ns.take 10).map CV.int)])[h.length + 2]? = some (.lst ((0 :: ns.take 10).map CV.int)) := get_at
  obtain ⟨s', h', e, ⟨y1, y2, y3, y4, y5, y6, y7, rfl⟩, o⟩ := foK_inv (F := F) (W := W) (s := [some (.lst (ns.map CV.int)), none, none, none, none, none, none, none, none]) (h := h ++ [CO.lst [.int 0], .lst ((ns.take 10).map CV.int), .lst (CV.int 0 :: (ns.take 10).map CV.int)]) (t := .nm 1) (b := out27) (src := .cell (h.length + 2))
    (fun j s' h' => (∃ y1 y2 y3 y4 y5 y6 y7, s' = [some (.lst (ns.map CV.int)), y1, y2, y3, y4, y5, y6, y7, none]) ∧ Off [] (h ++ [CO.lst [.int 0], .lst ((ns.take 10).map CV.int), .lst (CV.int 0 :: (ns.take 10).map CV.int)]) h')
    ⟨⟨_, _, _, _, _, _, _, rfl⟩, .refl _ _⟩
    (fun j s' h' hj hi => by
      rw [src_cellL g, List.length_map] at hj
      obtain ⟨⟨y1, y2, y3, y4, y5, y6, y7, rfl⟩, o⟩ := hi
      obtain ⟨s2, h2, e2, hs, o2⟩ := out27_ok F W H (h := h') (i := (0 :: ns.take 10)[j]) (x0 := some (.lst (ns.map CV.int))) (x2 := y2) (x3 := y3) (x4 := y4) (x5 := y5) (x6 := y6) (x7 := y7)
      exact ⟨.int (0 :: ns.take 10)[j], s2, h2, by rw [src_cell (o.get g (by simp)), List.getElem?_map, List.getElem?_eq_getElem hj]; rfl, by rw [foB_nm]; exact e2, hs, o.trans o2⟩)
    (fun s' h' hi => by rw [src_cellL g, src_cell (hi.2.get g (by simp)), List.getElem?_eq_none (Nat.le_refl _)])
  obtain ⟨h2, e2, o2⟩ := H.show' h' [] (fun d hd => by cases hd) (by simp)
  rw [show textOf [] = [45] from rfl, List.map_nil] at e2
  have e3 := H.read0 h2
  have eq0 : eqV h2 (.tup []) (.tup []) = some true := eqV_pl rfl rfl
  refine ⟨h2, ?_⟩
  unfold out27 at e
  simp only [b27, n27, run_eq, List.length_cons, List.length_nil, List.map_cons, List.map_nil, List.cons_append, List.nil_append, List.replicate, List.set_cons_zero, List.set_cons_succ, x_cons, x_nil, seqC_nx, seqC_rt, x_asg, asgK_nm, asgK_sub, retS_some, retH_some, sub1_eq, sub2_eq, x_expr, exK_eq, x_ret, retK_eq, x_retn, x_iff, iffK_t, iffK_f, x_fo, x_pas, x_par, runK_nx, runK_rt, bindE_some, bindL_some, bindO_some, bindI_some, bindB_some, liftB_some, retV_some, asB_bl, bin1_eq, e_bin, cmpK_eq, cmp1_eq, e_cmp, cmpR_t, cmpR_f, cmp2a_eq, e_cmp2, cmpR3_t, cmpR3_f, cmp3a_eq, e_cmp3, e_and, e_or, andK_t, andK_f, orK_t, orK_f, bOut_eq, notK_eq, e_not, negK_int, e_neg, iteK_t, iteK_f, e_ite, tupK2_eq, e_tup, lstK_eq, e_lst, e_dct0, ixK_eq, ix1_eq, e_ix, sl1_eq, sl2_eq, e_sl, e_rev, o_no, o_ex, oK_int, e_call, e_bi, e_me, s_nil, s_cons, consA_eq, consB_eq, e_lit, e_glob, e_var0, e_varS, e_comp, i_range1, i_range2, r2a_eq, i_val, vK_tup, vK_str, t_lit, t_cmp, t_cmp2, t_cmp3, t_call, t_bi, t_var, t_and, t_or, t_not, andT_t, andT_f, orT_t, orT_f, notT_eq, v_add, v_sub, c_lt, c_le, c_gt, c_ge, c_eqI, c_neI, c_eqS, c_neS, c_isN, c_isnotN, c_isB, c_isnotB, x_tup, x_lstV, sl_lstV, sl_tup, b_lenT, b_lenV, decide_true, decide_false, Bool.not_true, Bool.not_false, at0, at1, at2, at3, Nat.reduceAdd, Nat.reduceSub, Nat.reduceMul, Int.reduceAdd, Int.reduceSub, Int.reduceMul, Int.reduceNeg, Int.reduceLT, Int.reduceLE, Int.reduceToNat, Int.cast_ofNat_Int, get_at, get_at0, set_at, set_at0, v_addR, addO_ok, b_lenR, lenO_lst, x_ref, ixO_lst, sl_ref, slO_lst, set_ref, m_appR, appO_lst, b_allR, b_anyR, b_listT, vK_ref, vO_lst, me1_app, recO_lst, when_t, List.append_assoc, List.length_append, List.getElem?_cons_zero, List.getElem?_cons_succ, Nat.zero_add, lim_big, lim_lt, Nat.reduceLeDiff, Nat.reduceLT, ec, hlim, List.length_map, e, e2, e3, c_eq eq0]
end TH

namespace TH
open PySem
/-! ### rows behind one another: their parts -/
def met (xs ys : List Dd) : Bool := match xs.getLast?, ys.head? with
  | some d, some e => isBoth d e
  | _, _ => false
theorem met_nil {ys : List Dd} : met [] ys = false := rfl
theorem met_nilR {xs : List Dd} : met xs [] = false := by unfold met; cases xs.getLast? <;> rfl
theorem met_cons {d : Dd} {xs ys : List Dd} (h : xs ≠ []) : met (d :: xs) ys = met xs ys := by
  unfold met
  rw [List.getLast?_cons]
  cases e : xs.getLast? with
  | none => exact absurd (List.getLast?_eq_none_iff.mp e) h
  | some x => rfl
theorem met_at {pre r : List Dd} {d e : Dd} : met (pre ++ [d]) (e :: r) = isBoth d e := by
  unfold met
  rw [List.getLast?_append]
  rfl
theorem parts_take {e : Dd} {r : List Dd} (h : e.s = false) : parts (e :: r) = e.one :: parts r := by
  cases r with
  | nil => simp [parts]
  | cons f r => simp [parts, isBoth, h]
theorem parts_app : ∀ xs ys : List Dd, (parts (xs ++ ys)).length + (if met xs ys = true then 1 else 0) = (parts xs).length + (parts ys).length ∧ (met xs ys = false → parts (xs ++ ys) = parts xs ++ parts ys)
  | [], ys => by simp [met_nil, parts]
  | [d], [] => by simp [met_nilR, parts]
  | [d], e :: r => by
    have hm : met [d] (e :: r) = isBoth d e := met_at (pre := [])
    rw [hm]
    cases hb : isBoth d e with
    | false => simp [parts, hb]; omega
    | true =>
      have he : e.s = false := by rw [(isBoth_eq hb).2]; rfl
      simp [parts, hb, parts_take he]
      omega
  | d :: e :: r, ys => by
    cases hb : isBoth d e with
    | false =>
      obtain ⟨i1, i2⟩ := parts_app (e :: r) ys
      rw [met_cons (by simp)]
      simp only [List.cons_append] at i1 i2 ⊢
      rw [parts, hb, if_neg Bool.false_ne_true]
      rw [show parts (d :: e :: r) = d.one :: parts (e :: r) by rw [parts, hb, if_neg Bool.false_ne_true]]
      refine ⟨by simp only [List.length_cons]; omega, fun hm => ?_⟩
      rw [i2 hm]; rfl
    | true =>
      obtain ⟨i1, i2⟩ := parts_app r ys
      have he : e.s = false := by rw [(isBoth_eq hb).2]; rfl
      have hm : met (d :: e :: r) ys = met r ys := by
        rw [met_cons (by simp)]
        cases r with
        | nil =>
          cases ys with
          | nil => rfl
          | cons f ys =>
            rw [show met [e] (f :: ys) = isBoth e f from met_at (pre := [])]
            simp [isBoth, he, met_nil]
        | cons f r => rw [met_cons (by simp)]
      rw [hm]
      simp only [List.cons_append]
      rw [parts, hb, if_pos rfl]
      rw [show parts (d :: e :: r) = d.two :: parts r by rw [parts, hb, if_pos rfl]]
      refine ⟨by simp only [List.length_cons]; omega, fun hm => ?_⟩
      rw [i2 hm]; rfl
/-! ### other names -/
def Dd.ren (f : List Nat → List Nat) (d : Dd) : Dd := ⟨d.s, f d.a, f d.b, f d.c⟩
def Dd.nms (d : Dd) : List (List Nat) := [d.a, d.b, d.c]
/-- f calls the names ns otherwise -/
structure Ren6 (ns : List (List Nat)) (f : List Nat → List Nat) : Prop where
  nm : ∀ k ∈ ns, Nm (f k)
  inj : ∀ k ∈ ns, ∀ l ∈ ns, f k = f l → k = l
def InN (ns : List (List Nat)) (d : Dd) : Prop := ∀ k ∈ d.nms, k ∈ ns
theorem ren_ok {ns : List (List Nat)} {f : List Nat → List Nat} (R : Ren6 ns f) {d : Dd} (h : d.ok) (hn : InN ns d) : (d.ren f).ok :=
  ⟨R.nm _ (hn _ (by simp [Dd.nms])), R.nm _ (hn _ (by simp [Dd.nms])), R.nm _ (hn _ (by simp [Dd.nms])), fun e => h.2.2.2 (R.inj _ (hn _ (by simp [Dd.nms])) _ (hn _ (by simp [Dd.nms])) e)⟩
theorem ren_both {ns : List (List Nat)} {f : List Nat → List Nat} (R : Ren6 ns f) {d e : Dd} (hd : InN ns d) (he : InN ns e) : isBoth (d.ren f) (e.ren f) = isBoth d e := by
  unfold isBoth
  show (d.s && decide (e.ren f = (d.ren f).tk)) = _
  congr 1
  refine decide_eq_decide.mpr ⟨fun h => ?_, fun h => by rw [h]; rfl⟩
  obtain ⟨s, a, b, c⟩ := d
  obtain ⟨t, x, y, z⟩ := e
  simp only [Dd.ren, Dd.tk, Dd.mk.injEq] at h ⊢
  simp only [InN, Dd.nms, List.mem_cons, List.not_mem_nil, or_false, forall_eq_or_imp, forall_eq] at hd he
  exact ⟨h.1, R.inj _ he.1 _ hd.1 h.2.1, R.inj _ he.2.1 _ hd.2.1 h.2.2.1, R.inj _ he.2.2 _ hd.2.2 h.2.2.2⟩
theorem partsQ_ren {ns : List (List Nat)} {f : List Nat → List Nat} (R : Ren6 ns f) : ∀ ds : List Dd, (∀ d ∈ ds, InN ns d) → partsQ (ds.map (Dd.ren f)) = (partsQ ds).map fun q => (q.1, q.2.ren f)
  | [], _ => rfl
  | [d], _ => rfl
  | d :: e :: r, h => by
    have hb := ren_both R (h d (by simp)) (h e (by simp))
    have i1 := partsQ_ren R r fun x hx => h x (by simp [hx])
    have i2 := partsQ_ren R (e :: r) fun x hx => h x (List.mem_cons_of_mem _ hx)
    simp only [List.map_cons] at i2 ⊢
    rw [partsQ, partsQ, hb]
    split
    · rw [List.map_cons, i1]
    · rw [List.map_cons, i2]
def sgs : List Nat := [33, 63, 62, 32, 45]
def sg (t : List Nat) : List Nat := t.filter fun c => decide (c ∈ sgs)
theorem sgn_nm {k : List Nat} (h : Nm k) : sg k = [] := by
  unfold sg
  rw [List.filter_eq_nil_iff]
  intro c hc
  have := h.2.2 c hc
  simp only [decide_eq_true_eq]
  intro z
  have : ∀ c ∈ sgs, c ∉ al := by decide
  exact this c z (h.2.2 c hc)
theorem sgn_app (a b : List Nat) : sg (a ++ b) = sg a ++ sg b := List.filter_append ..
theorem sgn_part {q : Pq} (h : Pq.ok q) : sg (Pq.text q) = if q.1 = true then [62] else if q.2.s = true then [33] else [63] := by
  obtain ⟨⟨ha, hb, hc, hab⟩, _⟩ := h
  unfold Pq.text Dd.one Dd.two
  split
  · simp only [sgn_app, sgn_nm ha, sgn_nm hb, sgn_nm hc]; rfl
  · split
    · simp only [sgn_app, sgn_nm ha, sgn_nm hb, sgn_nm hc]; rfl
    · simp only [sgn_app, sgn_nm ha, sgn_nm hb, sgn_nm hc]; rfl
theorem sgn_join : ∀ ps : List (List Nat), sg (joinS [32] ps) = joinS [32] (ps.map sg)
  | [] => rfl
  | [p] => rfl
  | p :: q :: r => by
    rw [joinS, sgn_app, sgn_app, sgn_join (q :: r)]
    rfl
theorem sgn_text {ns : List (List Nat)} {f : List Nat → List Nat} (R : Ren6 ns f) {ds : List Dd} (hd : ∀ d ∈ ds, d.ok) (hn : ∀ d ∈ ds, InN ns d) : sg (textOf (ds.map (Dd.ren f))) = sg (textOf ds) := by
  by_cases h : ds = []
  · subst h; rfl
  · have h2 : ds.map (Dd.ren f) ≠ [] := by simpa using h
    unfold textOf
    rw [if_neg h, if_neg h2, sgn_join, sgn_join, ← partsQ_text, ← partsQ_text, partsQ_ren R ds hn, List.map_map, List.map_map, List.map_map]
    congr 1
    have hq := partsQ_ok ds hd
    have hq2 := partsQ_ok (ds.map (Dd.ren f)) (fun d hd' => by
      obtain ⟨x, hx, rfl⟩ := List.mem_map.mp hd'
      exact ren_ok R (hd x hx) (hn x hx))
    rw [partsQ_ren R ds hn] at hq2
    refine List.map_congr_left fun q hq' => ?_
    show sg (Pq.text (q.1, q.2.ren f)) = sg (Pq.text q)
    rw [sgn_part (hq q hq'), sgn_part (hq2 _ (List.mem_map.mpr ⟨q, hq', rfl⟩))]
    rfl
end TH

namespace TH
open PySem
/-! ### k06: parts told, names called otherwise, signs -/
theorem part_no32 {ds : List Dd} (hd : ∀ d ∈ ds, d.ok) : ∀ p ∈ parts ds, 32 ∉ p := by
  intro p hp z
  rw [← partsQ_text] at hp
  obtain ⟨q, hq, rfl⟩ := List.mem_map.mp hp
  rcases Pq.mem (partsQ_ok ds hd q hq) 32 z with z | z | z | z | z
  · exact absurd z (by decide)
  all_goals omega
theorem parts_ne {ds : List Dd} (h : ds ≠ []) : parts ds ≠ [] := fun z => h (by
  have := partsQ_rows ds
  have e : partsQ ds = [] := List.map_eq_nil_iff.mp ((partsQ_text ds).trans z)
  rw [e] at this
  exact this.symm)
theorem text_len {ds : List Dd} (hd : ∀ d ∈ ds, d.ok) (hl : ds.length ≤ 1000) : (textOf ds).length ≤ 27001 := by
  unfold textOf
  split
  · simp
  · have lj := joinS_le (t := [32]) (n := 26) (parts ds) (parts_each (P := fun p => p.length ≤ 26) (fun d => one_len) (fun d => two_len) ds hd)
    have lp := parts_len ds
    have : (parts ds).length * 27 ≤ 1000 * 27 := Nat.mul_le_mul_right _ (by omega)
    simp at lj; omega
def ShowIs (F : Fns) : Prop := ∀ (h : CH) (ds : List Dd), (∀ d ∈ ds, d.ok) → ds.length ≤ 1000 → ∃ h', F 20 [.tup (ds.map Dd.cv)] h = some (.str (textOf ds), h') ∧ Off [] h h'
theorem run_parts (F : Fns) (W : Nat) (h20 : ShowIs F) {h : CH} {ds : List Dd} (hd : ∀ d ∈ ds, d.ok) (hl : ds.length ≤ 1000) :
    ∃ r h', runC F W n41.length b41 [.tup (ds.map Dd.cv)] h = some (.ref r, h') ∧ h'[r]? = some (.lst ((parts ds).map .str)) ∧ Off [] h h' ∧ h.length ≤ r := by
  have eq := eq_rows (h := h) (ds := ds) (es := [])
  by_cases hn : ds = []
  · subst hn
    refine ⟨h.length, h ++ [.lst []], ?_, get_new, Off.app _ _ _, Nat.le_refl _⟩
    simp only [List.map_nil] at eq ⊢
    simp only [b41, n41, run_eq, List.length_cons, List.length_nil, List.map_cons, List.map_nil, List.cons_append, List.nil_append, List.replicate, List.set_cons_zero, List.set_cons_succ, x_cons, x_nil, seqC_nx, seqC_rt, x_asg, asgK_nm, asgK_sub, retS_some, retH_some, sub1_eq, sub2_eq, x_expr, exK_eq, x_ret, retK_eq, x_retn, x_iff, iffK_t, iffK_f, x_fo, x_pas, x_par, runK_nx, runK_rt, bindE_some, bindL_some, bindO_some, bindI_some, bindB_some, liftB_some, retV_some, asB_bl, bin1_eq, e_bin, cmpK_eq, cmp1_eq, e_cmp, cmpR_t, cmpR_f, cmp2a_eq, e_cmp2, cmpR3_t, cmpR3_f, cmp3a_eq, e_cmp3, e_and, e_or, andK_t, andK_f, orK_t, orK_f, bOut_eq, notK_eq, e_not, negK_int, e_neg, iteK_t, iteK_f, e_ite, tupK2_eq, e_tup, lstK_eq, e_lst, e_dct0, ixK_eq, ix1_eq, e_ix, sl1_eq, sl2_eq, e_sl, e_rev, o_no, o_ex, oK_int, e_call, e_bi, e_me, s_nil, s_cons, consA_eq, consB_eq, e_lit, e_glob, e_var0, e_varS, e_comp, i_range1, i_range2, r2a_eq, i_val, vK_tup, vK_str, t_lit, t_cmp, t_cmp2, t_cmp3, t_call, t_bi, t_var, t_and, t_or, t_not, andT_t, andT_f, orT_t, orT_f, notT_eq, v_add, v_sub, c_lt, c_le, c_gt, c_ge, c_eqI, c_neI, c_eqS, c_neS, c_isN, c_isnotN, c_isB, c_isnotB, x_tup, x_lstV, sl_lstV, sl_tup, b_lenT, b_lenV, decide_true, decide_false, Bool.not_true, Bool.not_false, at0, at1, at2, at3, Nat.reduceAdd, Nat.reduceSub, Nat.reduceMul, Int.reduceAdd, Int.reduceSub, Int.reduceMul, Int.reduceNeg, Int.reduceLT, Int.reduceLE, Int.reduceToNat, Int.cast_ofNat_Int, get_at, get_at0, set_at, set_at0, v_addR, addO_ok, b_lenR, lenO_lst, x_ref, ixO_lst, sl_ref, slO_lst, set_ref, m_appR, appO_lst, b_allR, b_anyR, b_listT, vK_ref, vO_lst, me1_app, recO_lst, when_t, List.append_assoc, List.length_append, List.getElem?_cons_zero, List.getElem?_cons_succ, Nat.zero_add, lim_big, lim_lt, Nat.reduceLeDiff, Nat.reduceLT, asgK_tupS, foB_tupS, foB_nm, setN_nil, setN_cons, tupS_some, bindS_some, forL_nil, forL_cons, foK_tup, foK_str, r_part, r_split, r_join, c_eq eq]
  · rw [decide_eq_false hn] at eq
    simp only [List.map_nil] at eq
    obtain ⟨h1, e1, o1⟩ := h20 h ds hd hl
    have tl := text_len hd hl
    have ms := m_split (h := h1) (c := 32) (t := textOf ds) ⟨by rw [show lim = 16777216 from rfl]; omega, by decide⟩
    have hsp : splitC 32 (textOf ds) = parts ds := by
      unfold textOf
      rw [if_neg hn]
      exact splitC_join (parts_ne hn) (part_no32 hd)
    rw [hsp] at ms
    refine ⟨h1.length, h1 ++ [.lst ((parts ds).map .str)], ?_, get_new, o1.trans (Off.app _ _ _), o1.len⟩
    simp only [b41, n41, run_eq, List.length_cons, List.length_nil, List.map_cons, List.map_nil, List.cons_append, List.nil_append, List.replicate, List.set_cons_zero, List.set_cons_succ, x_cons, x_nil, seqC_nx, seqC_rt, x_asg, asgK_nm, asgK_sub, retS_some, retH_some, sub1_eq, sub2_eq, x_expr, exK_eq, x_ret, retK_eq, x_retn, x_iff, iffK_t, iffK_f, x_fo, x_pas, x_par, runK_nx, runK_rt, bindE_some, bindL_some, bindO_some, bindI_some, bindB_some, liftB_some, retV_some, asB_bl, bin1_eq, e_bin, cmpK_eq, cmp1_eq, e_cmp, cmpR_t, cmpR_f, cmp2a_eq, e_cmp2, cmpR3_t, cmpR3_f, cmp3a_eq, e_cmp3, e_and, e_or, andK_t, andK_f, orK_t, orK_f, bOut_eq, notK_eq, e_not, negK_int, e_neg, iteK_t, iteK_f, e_ite, tupK2_eq, e_tup, lstK_eq, e_lst, e_dct0, ixK_eq, ix1_eq, e_ix, sl1_eq, sl2_eq, e_sl, e_rev, o_no, o_ex, oK_int, e_call, e_bi, e_me, s_nil, s_cons, consA_eq, consB_eq, e_lit, e_glob, e_var0, e_varS, e_comp, i_range1, i_range2, r2a_eq, i_val, vK_tup, vK_str, t_lit, t_cmp, t_cmp2, t_cmp3, t_call, t_bi, t_var, t_and, t_or, t_not, andT_t, andT_f, orT_t, orT_f, notT_eq, v_add, v_sub, c_lt, c_le, c_gt, c_ge, c_eqI, c_neI, c_eqS, c_neS, c_isN, c_isnotN, c_isB, c_isnotB, x_tup, x_lstV, sl_lstV, sl_tup, b_lenT, b_lenV, decide_true, decide_false, Bool.not_true, Bool.not_false, at0, at1, at2, at3, Nat.reduceAdd, Nat.reduceSub, Nat.reduceMul, Int.reduceAdd, Int.reduceSub, Int.reduceMul, Int.reduceNeg, Int.reduceLT, Int.reduceLE, Int.reduceToNat, Int.cast_ofNat_Int, get_at, get_at0, set_at, set_at0, v_addR, addO_ok, b_lenR, lenO_lst, x_ref, ixO_lst, sl_ref, slO_lst, set_ref, m_appR, appO_lst, b_allR, b_anyR, b_listT, vK_ref, vO_lst, me1_app, recO_lst, when_t, List.append_assoc, List.length_append, List.getElem?_cons_zero, List.getElem?_cons_succ, Nat.zero_add, lim_big, lim_lt, Nat.reduceLeDiff, Nat.reduceLT, asgK_tupS, foB_tupS, foB_nm, setN_nil, setN_cons, tupS_some, bindS_some, forL_nil, forL_cons, foK_tup, foK_str, r_part, r_split, r_join, c_eq eq, e1, me1_eq r_split, ms]
theorem run_called (F : Fns) (W : Nat) {h : CH} {r : Nat} {kvs : List (CV × CV)} {ns : List (List Nat)} {f : List Nat → List Nat} (g : h[r]? = some (.dct kvs)) (lk : LK kvs) (hf : ∀ k ∈ ns, dget kvs (.str k) = some (.str (f k)))
    {ds : List Dd} (hn : ∀ d ∈ ds, InN ns d) (hl : ds.length ≤ 1000) : ∃ h', runC F W n42.length b42 [.tup (ds.map Dd.cv), .ref r] h = some (.tup ((ds.map (Dd.ren f)).map Dd.cv), h') ∧ Off [] h h' := by
  let ff : CV → CV := fun x => match x with
    | .tup [.str k, .str a, .str b, .str c] => .tup [.str k, .str (f a), .str (f b), .str (f c)]
    | _ => x
  obtain ⟨h', e, o⟩ := comp_offA (F := F) (s := [some (.tup (ds.map Dd.cv)), some (.ref r), none, none]) (h := h) (elt := .bin .add (.sl (.var 2) .no (.ex (.lit (.int 1)))) (.bi .tuple (.cons (.comp (.ix (.var 1) (.var 3)) 3 (.val (.sl (.var 2) (.ex (.lit (.int 1))) .no)) (.lit (.bl true))) .nil))) (i := 2) (src := .tup (ds.map Dd.cv)) (xs := ds.map Dd.cv) ff
    (fun h' o j => src_tup) src_tupL (by rw [List.length_map]; exact lim_big (by omega)) fun x hx h' o => by
      obtain ⟨d, hd, rfl⟩ := List.mem_map.mp hx
      have hnd := hn d hd
      obtain ⟨s, a, b, c⟩ := d
      simp only [InN, Dd.nms, List.mem_cons, List.not_mem_nil, or_false, forall_eq_or_imp, forall_eq] at hnd
      have g' := o.get g (by simp)
      have ix : ∀ k ∈ ns, ixV (.ref r) (.str k) h' = some (.str (f k)) := fun k hk => (x_dct g' (kok_lk lk rfl)).trans (hf k hk)
      have ec := comp_all (F := F) (s := [some (.tup (ds.map Dd.cv)), some (.ref r), some (.tup [.str (kd s), .str a, .str b, .str c]), none]) (h := h') (elt := .ix (.var 1) (.var 3)) (i := 3) (src := .tup [.str a, .str b, .str c]) (xs := [.str a, .str b, .str c])
        (fun x => match x with | .str k => .str (f k) | _ => x) (fun i => src_tup) src_tupL (lim_big (by simp)) (fun x hx => by
          simp only [List.mem_cons, List.not_mem_nil, or_false] at hx
          rcases hx with rfl | rfl | rfl
          · simp only [run_eq, List.length_cons, List.length_nil, List.map_cons, List.map_nil, List.cons_append, List.nil_append, List.replicate, List.set_cons_zero, List.set_cons_succ, x_cons, x_nil, seqC_nx, seqC_rt, x_asg, asgK_nm, asgK_sub, retS_some, retH_some, sub1_eq, sub2_eq, x_expr, exK_eq, x_ret, retK_eq, x_retn, x_iff, iffK_t, iffK_f, x_fo, x_pas, x_par, runK_nx, runK_rt, bindE_some, bindL_some, bindO_some, bindI_some, bindB_some, liftB_some, retV_some, asB_bl, bin1_eq, e_bin, cmpK_eq, cmp1_eq, e_cmp, cmpR_t, cmpR_f, cmp2a_eq, e_cmp2, cmpR3_t, cmpR3_f, cmp3a_eq, e_cmp3, e_and, e_or, andK_t, andK_f, orK_t, orK_f, bOut_eq, notK_eq, e_not, negK_int, e_neg, iteK_t, iteK_f, e_ite, tupK2_eq, e_tup, lstK_eq, e_lst, e_dct0, ixK_eq, ix1_eq, e_ix, sl1_eq, sl2_eq, e_sl, e_rev, o_no, o_ex, oK_int, e_call, e_bi, e_me, s_nil, s_cons, consA_eq, consB_eq, e_lit, e_glob, e_var0, e_varS, e_comp, i_range1, i_range2, r2a_eq, i_val, vK_tup, vK_str, t_lit, t_cmp, t_cmp2, t_cmp3, t_call, t_bi, t_var, t_and, t_or, t_not, andT_t, andT_f, orT_t, orT_f, notT_eq, v_add, v_sub, c_lt, c_le, c_gt, c_ge, c_eqI, c_neI, c_eqS, c_neS, c_isN, c_isnotN, c_isB, c_isnotB, x_tup, x_lstV, sl_lstV, sl_tup, b_lenT, b_lenV, decide_true, decide_false, Bool.not_true, Bool.not_false, ix a hnd.1]
          · simp only [run_eq, List.length_cons, List.length_nil, List.map_cons, List.map_nil, List.cons_append, List.nil_append, List.replicate, List.set_cons_zero, List.set_cons_succ, x_cons, x_nil, seqC_nx, seqC_rt, x_asg, asgK_nm, asgK_sub, retS_some, retH_some, sub1_eq, sub2_eq, x_expr, exK_eq, x_ret, retK_eq, x_retn, x_iff, iffK_t, iffK_f, x_fo, x_pas, x_par, runK_nx, runK_rt, bindE_some, bindL_some, bindO_some, bindI_some, bindB_some, liftB_some, retV_some, asB_bl, bin1_eq, e_bin, cmpK_eq, cmp1_eq, e_cmp, cmpR_t, cmpR_f, cmp2a_eq, e_cmp2, cmpR3_t, cmpR3_f, cmp3a_eq, e_cmp3, e_and, e_or, andK_t, andK_f, orK_t, orK_f, bOut_eq, notK_eq, e_not, negK_int, e_neg, iteK_t, iteK_f, e_ite, tupK2_eq, e_tup, lstK_eq, e_lst, e_dct0, ixK_eq, ix1_eq, e_ix, sl1_eq, sl2_eq, e_sl, e_rev, o_no, o_ex, oK_int, e_call, e_bi, e_me, s_nil, s_cons, consA_eq, consB_eq, e_lit, e_glob, e_var0, e_varS, e_comp, i_range1, i_range2, r2a_eq, i_val, vK_tup, vK_str, t_lit, t_cmp, t_cmp2, t_cmp3, t_call, t_bi, t_var, t_and, t_or, t_not, andT_t, andT_f, orT_t, orT_f, notT_eq, v_add, v_sub, c_lt, c_le, c_gt, c_ge, c_eqI, c_neI, c_eqS, c_neS, c_isN, c_isnotN, c_isB, c_isnotB, x_tup, x_lstV, sl_lstV, sl_tup, b_lenT, b_lenV, decide_true, decide_false, Bool.not_true, Bool.not_false, ix b hnd.2.1]
          · simp only [run_eq, List.length_cons, List.length_nil, List.map_cons, List.map_nil, List.cons_append, List.nil_append, List.replicate, List.set_cons_zero, List.set_cons_succ, x_cons, x_nil, seqC_nx, seqC_rt, x_asg, asgK_nm, asgK_sub, retS_some, retH_some, sub1_eq, sub2_eq, x_expr, exK_eq, x_ret, retK_eq, x_retn, x_iff, iffK_t, iffK_f, x_fo, x_pas, x_par, runK_nx, runK_rt, bindE_some, bindL_some, bindO_some, bindI_some, bindB_some, liftB_some, retV_some, asB_bl, bin1_eq, e_bin, cmpK_eq, cmp1_eq, e_cmp, cmpR_t, cmpR_f, cmp2a_eq, e_cmp2, cmpR3_t, cmpR3_f, cmp3a_eq, e_cmp3, e_and, e_or, andK_t, andK_f, orK_t, orK_f, bOut_eq, notK_eq, e_not, negK_int, e_neg, iteK_t, iteK_f, e_ite, tupK2_eq, e_tup, lstK_eq, e_lst, e_dct0, ixK_eq, ix1_eq, e_ix, sl1_eq, sl2_eq, e_sl, e_rev, o_no, o_ex, oK_int, e_call, e_bi, e_me, s_nil, s_cons, consA_eq, consB_eq, e_lit, e_glob, e_var0, e_varS, e_comp, i_range1, i_range2, r2a_eq, i_val, vK_tup, vK_str, t_lit, t_cmp, t_cmp2, t_cmp3, t_call, t_bi, t_var, t_and, t_or, t_not, andT_t, andT_f, orT_t, orT_f, notT_eq, v_add, v_sub, c_lt, c_le, c_gt, c_ge, c_eqI, c_neI, c_eqS, c_neS, c_isN, c_isnotN, c_isB, c_isnotB, x_tup, x_lstV, sl_lstV, sl_tup, b_lenT, b_lenV, decide_true, decide_false, Bool.not_true, Bool.not_false, ix c hnd.2.2])
      have ec2 : cut [CV.str (kd s), .str a, .str b, .str c] none (some 1) = [.str (kd s)] := cut_to _ 1
      have bt := b_tupL (get_new (h := h') (o := CO.lst [.str (f a), .str (f b), .str (f c)]))
      refine ⟨h' ++ [.lst [.str (f a), .str (f b), .str (f c)]], ?_, Off.app _ _ _⟩
      simp only [List.map_cons, List.map_nil] at ec
      simp only [Dd.cv, run_eq, List.length_cons, List.length_nil, List.map_cons, List.map_nil, List.cons_append, List.nil_append, List.replicate, List.set_cons_zero, List.set_cons_succ, x_cons, x_nil, seqC_nx, seqC_rt, x_asg, asgK_nm, asgK_sub, retS_some, retH_some, sub1_eq, sub2_eq, x_expr, exK_eq, x_ret, retK_eq, x_retn, x_iff, iffK_t, iffK_f, x_fo, x_pas, x_par, runK_nx, runK_rt, bindE_some, bindL_some, bindO_some, bindI_some, bindB_some, liftB_some, retV_some, asB_bl, bin1_eq, e_bin, cmpK_eq, cmp1_eq, e_cmp, cmpR_t, cmpR_f, cmp2a_eq, e_cmp2, cmpR3_t, cmpR3_f, cmp3a_eq, e_cmp3, e_and, e_or, andK_t, andK_f, orK_t, orK_f, bOut_eq, notK_eq, e_not, negK_int, e_neg, iteK_t, iteK_f, e_ite, tupK2_eq, e_tup, lstK_eq, e_lst, e_dct0, ixK_eq, ix1_eq, e_ix, sl1_eq, sl2_eq, e_sl, e_rev, o_no, o_ex, oK_int, e_call, e_bi, e_me, s_nil, s_cons, consA_eq, consB_eq, e_lit, e_glob, e_var0, e_varS, e_comp, i_range1, i_range2, r2a_eq, i_val, vK_tup, vK_str, t_lit, t_cmp, t_cmp2, t_cmp3, t_call, t_bi, t_var, t_and, t_or, t_not, andT_t, andT_f, orT_t, orT_f, notT_eq, v_add, v_sub, c_lt, c_le, c_gt, c_ge, c_eqI, c_neI, c_eqS, c_neS, c_isN, c_isnotN, c_isB, c_isnotB, x_tup, x_lstV, sl_lstV, sl_tup, b_lenT, b_lenV, decide_true, decide_false, Bool.not_true, Bool.not_false, cut1, ec, ec2, bt, v_addT, ff]
      rw [v_addT (lim_big (by simp))]
      rfl
  have em : (ds.map Dd.cv).map ff = (ds.map (Dd.ren f)).map Dd.cv := by
    rw [List.map_map, List.map_map]
    rfl
  rw [em] at e
  have bt := b_tupL (get_new (h := h') (o := CO.lst ((ds.map (Dd.ren f)).map Dd.cv)))
  refine ⟨_, ?_, o.trans (Off.app [] _ [CO.lst ((ds.map (Dd.ren f)).map Dd.cv)])⟩
  simp only [b42, n42, run_eq, List.length_cons, List.length_nil, List.map_cons, List.map_nil, List.cons_append, List.nil_append, List.replicate, List.set_cons_zero, List.set_cons_succ, x_cons, x_nil, seqC_nx, seqC_rt, x_asg, asgK_nm, asgK_sub, retS_some, retH_some, sub1_eq, sub2_eq, x_expr, exK_eq, x_ret, retK_eq, x_retn, x_iff, iffK_t, iffK_f, x_fo, x_pas, x_par, runK_nx, runK_rt, bindE_some, bindL_some, bindO_some, bindI_some, bindB_some, liftB_some, retV_some, asB_bl, bin1_eq, e_bin, cmpK_eq, cmp1_eq, e_cmp, cmpR_t, cmpR_f, cmp2a_eq, e_cmp2, cmpR3_t, cmpR3_f, cmp3a_eq, e_cmp3, e_and, e_or, andK_t, andK_f, orK_t, orK_f, bOut_eq, notK_eq, e_not, negK_int, e_neg, iteK_t, iteK_f, e_ite, tupK2_eq, e_tup, lstK_eq, e_lst, e_dct0, ixK_eq, ix1_eq, e_ix, sl1_eq, sl2_eq, e_sl, e_rev, o_no, o_ex, oK_int, e_call, e_bi, e_me, s_nil, s_cons, consA_eq, consB_eq, e_lit, e_glob, e_var0, e_varS, e_comp, i_range1, i_range2, r2a_eq, i_val, vK_tup, vK_str, t_lit, t_cmp, t_cmp2, t_cmp3, t_call, t_bi, t_var, t_and, t_or, t_not, andT_t, andT_f, orT_t, orT_f, notT_eq, v_add, v_sub, c_lt, c_le, c_gt, c_ge, c_eqI, c_neI, c_eqS, c_neS, c_isN, c_isnotN, c_isB, c_isnotB, x_tup, x_lstV, sl_lstV, sl_tup, b_lenT, b_lenV, decide_true, decide_false, Bool.not_true, Bool.not_false, e, bt]
theorem run_signs (F : Fns) (W : Nat) {h : CH} {t : List Nat} (hl : t.length ≤ 30000) : runC F W n43.length b43 [.str t] h = some (.ref h.length, h ++ [.lst ((sg t).map fun c => .str [c])]) := by
  have ec := comp_map (F := F) (s := [some (.str t), none]) (h := h) (elt := .var 1) (cond := .cmp .isin (.var 1) (.lit (.str [33, 63, 62, 32, 45]))) (i := 1) (src := .str t) (xs := t.map fun c => .str [c])
    (fun x => match x with | .str [c] => decide (c ∈ sgs) | _ => false) (fun x => x) (fun i => src_str) src_strL (by rw [List.length_map]; exact lim_big (by omega)) (fun x hx => by
      obtain ⟨c, _, rfl⟩ := List.mem_map.mp hx
      have i := in_sign (h := h) (c := c) (t := [33, 63, 62, 32, 45])
      simp only [run_eq, List.length_cons, List.length_nil, List.map_cons, List.map_nil, List.cons_append, List.nil_append, List.replicate, List.set_cons_zero, List.set_cons_succ, x_cons, x_nil, seqC_nx, seqC_rt, x_asg, asgK_nm, asgK_sub, retS_some, retH_some, sub1_eq, sub2_eq, x_expr, exK_eq, x_ret, retK_eq, x_retn, x_iff, iffK_t, iffK_f, x_fo, x_pas, x_par, runK_nx, runK_rt, bindE_some, bindL_some, bindO_some, bindI_some, bindB_some, liftB_some, retV_some, asB_bl, bin1_eq, e_bin, cmpK_eq, cmp1_eq, e_cmp, cmpR_t, cmpR_f, cmp2a_eq, e_cmp2, cmpR3_t, cmpR3_f, cmp3a_eq, e_cmp3, e_and, e_or, andK_t, andK_f, orK_t, orK_f, bOut_eq, notK_eq, e_not, negK_int, e_neg, iteK_t, iteK_f, e_ite, tupK2_eq, e_tup, lstK_eq, e_lst, e_dct0, ixK_eq, ix1_eq, e_ix, sl1_eq, sl2_eq, e_sl, e_rev, o_no, o_ex, oK_int, e_call, e_bi, e_me, s_nil, s_cons, consA_eq, consB_eq, e_lit, e_glob, e_var0, e_varS, e_comp, i_range1, i_range2, r2a_eq, i_val, vK_tup, vK_str, t_lit, t_cmp, t_cmp2, t_cmp3, t_call, t_bi, t_var, t_and, t_or, t_not, andT_t, andT_f, orT_t, orT_f, notT_eq, v_add, v_sub, c_lt, c_le, c_gt, c_ge, c_eqI, c_neI, c_eqS, c_neS, c_isN, c_isnotN, c_isB, c_isnotB, x_tup, x_lstV, sl_lstV, sl_tup, b_lenT, b_lenV, decide_true, decide_false, Bool.not_true, Bool.not_false, c_in i]
      rfl) (fun x hx _ => by simp only [run_eq, List.length_cons, List.length_nil, List.map_cons, List.map_nil, List.cons_append, List.nil_append, List.replicate, List.set_cons_zero, List.set_cons_succ, x_cons, x_nil, seqC_nx, seqC_rt, x_asg, asgK_nm, asgK_sub, retS_some, retH_some, sub1_eq, sub2_eq, x_expr, exK_eq, x_ret, retK_eq, x_retn, x_iff, iffK_t, iffK_f, x_fo, x_pas, x_par, runK_nx, runK_rt, bindE_some, bindL_some, bindO_some, bindI_some, bindB_some, liftB_some, retV_some, asB_bl, bin1_eq, e_bin, cmpK_eq, cmp1_eq, e_cmp, cmpR_t, cmpR_f, cmp2a_eq, e_cmp2, cmpR3_t, cmpR3_f, cmp3a_eq, e_cmp3, e_and, e_or, andK_t, andK_f, orK_t, orK_f, bOut_eq, notK_eq, e_not, negK_int, e_neg, iteK_t, iteK_f, e_ite, tupK2_eq, e_tup, lstK_eq, e_lst, e_dct0, ixK_eq, ix1_eq, e_ix, sl1_eq, sl2_eq, e_sl, e_rev, o_no, o_ex, oK_int, e_call, e_bi, e_me, s_nil, s_cons, consA_eq, consB_eq, e_lit, e_glob, e_var0, e_varS, e_comp, i_range1, i_range2, r2a_eq, i_val, vK_tup, vK_str, t_lit, t_cmp, t_cmp2, t_cmp3, t_call, t_bi, t_var, t_and, t_or, t_not, andT_t, andT_f, orT_t, orT_f, notT_eq, v_add, v_sub, c_lt, c_le, c_gt, c_ge, c_eqI, c_neI, c_eqS, c_neS, c_isN, c_isnotN, c_isB, c_isnotB, x_tup, x_lstV, sl_lstV, sl_tup, b_lenT, b_lenV, decide_true, decide_false, Bool.not_true, Bool.not_false])
  have em : (((t.map fun c => CV.str [c]).filter fun x => match x with | .str [c] => decide (c ∈ sgs) | _ => false).map fun x => x) = (sg t).map fun c => .str [c] := by
    rw [List.map_id', List.filter_map]
    rfl
  rw [em] at ec
  simp only [b43, n43, run_eq, List.length_cons, List.length_nil, List.map_cons, List.map_nil, List.cons_append, List.nil_append, List.replicate, List.set_cons_zero, List.set_cons_succ, x_cons, x_nil, seqC_nx, seqC_rt, x_asg, asgK_nm, asgK_sub, retS_some, retH_some, sub1_eq, sub2_eq, x_expr, exK_eq, x_ret, retK_eq, x_retn, x_iff, iffK_t, iffK_f, x_fo, x_pas, x_par, runK_nx, runK_rt, bindE_some, bindL_some, bindO_some, bindI_some, bindB_some, liftB_some, retV_some, asB_bl, bin1_eq, e_bin, cmpK_eq, cmp1_eq, e_cmp, cmpR_t, cmpR_f, cmp2a_eq, e_cmp2, cmpR3_t, cmpR3_f, cmp3a_eq, e_cmp3, e_and, e_or, andK_t, andK_f, orK_t, orK_f, bOut_eq, notK_eq, e_not, negK_int, e_neg, iteK_t, iteK_f, e_ite, tupK2_eq, e_tup, lstK_eq, e_lst, e_dct0, ixK_eq, ix1_eq, e_ix, sl1_eq, sl2_eq, e_sl, e_rev, o_no, o_ex, oK_int, e_call, e_bi, e_me, s_nil, s_cons, consA_eq, consB_eq, e_lit, e_glob, e_var0, e_varS, e_comp, i_range1, i_range2, r2a_eq, i_val, vK_tup, vK_str, t_lit, t_cmp, t_cmp2, t_cmp3, t_call, t_bi, t_var, t_and, t_or, t_not, andT_t, andT_f, orT_t, orT_f, notT_eq, v_add, v_sub, c_lt, c_le, c_gt, c_ge, c_eqI, c_neI, c_eqS, c_neS, c_isN, c_isnotN, c_isB, c_isnotB, x_tup, x_lstV, sl_lstV, sl_tup, b_lenT, b_lenV, decide_true, decide_false, Bool.not_true, Bool.not_false, ec]
end TH

namespace TH
open PySem
def metE : CE := (.and (.cmp .ne (.var 0) (.tup .nil)) (.and (.cmp .ne (.var 1) (.tup .nil)) (.and (.cmp .eq (.ix (.ix (.var 0) (.neg (.lit (.int 1)))) (.lit (.int 0))) (.lit (.str [115, 101, 110, 100]))) (.cmp .eq (.ix (.var 1) (.lit (.int 0))) (.bin .add (.tup (.cons (.lit (.str [116, 97, 107, 101])) .nil)) (.sl (.ix (.var 0) (.neg (.lit (.int 1)))) (.ex (.lit (.int 1))) .no))))))
theorem met_ev (F : Fns) {h : CH} {xs ys : List Dd} {x2 x3 x4 x5 : Option CV} : evalC F metE [some (.tup (xs.map Dd.cv)), some (.tup (ys.map Dd.cv)), x2, x3, x4, x5] h = some (.bl (met xs ys), h) := by
  have q1 := eq_rows (h := h) (ds := xs) (es := [])
  have q2 := eq_rows (h := h) (ds := ys) (es := [])
  simp only [List.map_nil] at q1 q2
  rcases List.eq_nil_or_concat xs with rfl | ⟨pre, d, rfl⟩
  · simp only [decide_true, List.map_nil] at q1
    simp only [metE, run_eq, List.length_cons, List.length_nil, List.map_cons, List.map_nil, List.cons_append, List.nil_append, List.replicate, List.set_cons_zero, List.set_cons_succ, x_cons, x_nil, seqC_nx, seqC_rt, x_asg, asgK_nm, asgK_sub, retS_some, retH_some, sub1_eq, sub2_eq, x_expr, exK_eq, x_ret, retK_eq, x_retn, x_iff, iffK_t, iffK_f, x_fo, x_pas, x_par, runK_nx, runK_rt, bindE_some, bindL_some, bindO_some, bindI_some, bindB_some, liftB_some, retV_some, asB_bl, bin1_eq, e_bin, cmpK_eq, cmp1_eq, e_cmp, cmpR_t, cmpR_f, cmp2a_eq, e_cmp2, cmpR3_t, cmpR3_f, cmp3a_eq, e_cmp3, e_and, e_or, andK_t, andK_f, orK_t, orK_f, bOut_eq, notK_eq, e_not, negK_int, e_neg, iteK_t, iteK_f, e_ite, tupK2_eq, e_tup, lstK_eq, e_lst, e_dct0, ixK_eq, ix1_eq, e_ix, sl1_eq, sl2_eq, e_sl, e_rev, o_no, o_ex, oK_int, e_call, e_bi, e_me, s_nil, s_cons, consA_eq, consB_eq, e_lit, e_glob, e_var0, e_varS, e_comp, i_range1, i_range2, r2a_eq, i_val, vK_tup, vK_str, t_lit, t_cmp, t_cmp2, t_cmp3, t_call, t_bi, t_var, t_and, t_or, t_not, andT_t, andT_f, orT_t, orT_f, notT_eq, v_add, v_sub, c_lt, c_le, c_gt, c_ge, c_eqI, c_neI, c_eqS, c_neS, c_isN, c_isnotN, c_isB, c_isnotB, x_tup, x_lstV, sl_lstV, sl_tup, b_lenT, b_lenV, decide_true, decide_false, Bool.not_true, Bool.not_false, at0, at1, at2, at3, Nat.reduceAdd, Nat.reduceSub, Nat.reduceMul, Int.reduceAdd, Int.reduceSub, Int.reduceMul, Int.reduceNeg, Int.reduceLT, Int.reduceLE, Int.reduceToNat, Int.cast_ofNat_Int, get_at, get_at0, set_at, set_at0, v_addR, addO_ok, b_lenR, lenO_lst, x_ref, ixO_lst, sl_ref, slO_lst, set_ref, m_appR, appO_lst, b_allR, b_anyR, b_listT, vK_ref, vO_lst, me1_app, recO_lst, when_t, List.append_assoc, List.length_append, List.getElem?_cons_zero, List.getElem?_cons_succ, Nat.zero_add, lim_big, lim_lt, Nat.reduceLeDiff, Nat.reduceLT, c_ne q1, met_nil]
  · rw [decide_eq_false (by simp)] at q1
    cases ys with
    | nil =>
      simp only [decide_true, List.map_nil] at q2
      simp only [metE, run_eq, List.length_cons, List.length_nil, List.map_cons, List.map_nil, List.cons_append, List.nil_append, List.replicate, List.set_cons_zero, List.set_cons_succ, x_cons, x_nil, seqC_nx, seqC_rt, x_asg, asgK_nm, asgK_sub, retS_some, retH_some, sub1_eq, sub2_eq, x_expr, exK_eq, x_ret, retK_eq, x_retn, x_iff, iffK_t, iffK_f, x_fo, x_pas, x_par, runK_nx, runK_rt, bindE_some, bindL_some, bindO_some, bindI_some, bindB_some, liftB_some, retV_some, asB_bl, bin1_eq, e_bin, cmpK_eq, cmp1_eq, e_cmp, cmpR_t, cmpR_f, cmp2a_eq, e_cmp2, cmpR3_t, cmpR3_f, cmp3a_eq, e_cmp3, e_and, e_or, andK_t, andK_f, orK_t, orK_f, bOut_eq, notK_eq, e_not, negK_int, e_neg, iteK_t, iteK_f, e_ite, tupK2_eq, e_tup, lstK_eq, e_lst, e_dct0, ixK_eq, ix1_eq, e_ix, sl1_eq, sl2_eq, e_sl, e_rev, o_no, o_ex, oK_int, e_call, e_bi, e_me, s_nil, s_cons, consA_eq, consB_eq, e_lit, e_glob, e_var0, e_varS, e_comp, i_range1, i_range2, r2a_eq, i_val, vK_tup, vK_str, t_lit, t_cmp, t_cmp2, t_cmp3, t_call, t_bi, t_var, t_and, t_or, t_not, andT_t, andT_f, orT_t, orT_f, notT_eq, v_add, v_sub, c_lt, c_le, c_gt, c_ge, c_eqI, c_neI, c_eqS, c_neS, c_isN, c_isnotN, c_isB, c_isnotB, x_tup, x_lstV, sl_lstV, sl_tup, b_lenT, b_lenV, decide_true, decide_false, Bool.not_true, Bool.not_false, at0, at1, at2, at3, Nat.reduceAdd, Nat.reduceSub, Nat.reduceMul, Int.reduceAdd, Int.reduceSub, Int.reduceMul, Int.reduceNeg, Int.reduceLT, Int.reduceLE, Int.reduceToNat, Int.cast_ofNat_Int, get_at, get_at0, set_at, set_at0, v_addR, addO_ok, b_lenR, lenO_lst, x_ref, ixO_lst, sl_ref, slO_lst, set_ref, m_appR, appO_lst, b_allR, b_anyR, b_listT, vK_ref, vO_lst, me1_app, recO_lst, when_t, List.append_assoc, List.length_append, List.getElem?_cons_zero, List.getElem?_cons_succ, Nat.zero_add, lim_big, lim_lt, Nat.reduceLeDiff, Nat.reduceLT, c_ne q1, c_ne q2, met_nilR]
    | cons e r =>
      rw [decide_eq_false (by simp)] at q2
      rw [List.concat_eq_append]
      simp only [List.concat_eq_append] at q1
      rw [met_at]
      have al : atI ((pre ++ [d]).map Dd.cv) (-1) = some d.cv := by rw [List.map_append]; exact at_last
      have ix : evalC F (.ix (.var 0) (.neg (.lit (.int 1)))) [some (.tup ((pre ++ [d]).map Dd.cv)), some (.tup ((e :: r).map Dd.cv)), x2, x3, x4, x5] h = some (d.cv, h) := by
        simp only [e_ix, e_var0, bindE_some, ix1_eq, e_neg, e_lit, negK_int, ixK_eq, x_tup, al, retV_some]
      have et := take_ev ix
      have eq := eq_deed (h := h) (d := e) (e := d.tk)
      have ex : ixV d.cv (.int 0) = fun h => some (.str (kd d.s)) := atI_dd0
      have a0 : atI ((e :: r).map Dd.cv) 0 = some e.cv := at0
      unfold metE
      rw [e_and]
      simp only [t_cmp, e_cmp, e_var0, e_varS, bindE_some, cmp1_eq, e_tup, s_nil, bindL_some, tupK2_eq, cmpK_eq, c_ne q1, c_ne q2, liftB_some, asB_bl, bindB_some, andK_t, t_and, andT_t, Bool.not_false]
      rw [e_ix, ix]
      simp only [bindE_some, ix1_eq, e_lit, ixK_eq, ex, retV_some, cmp1_eq, cmpK_eq, c_eqS, kd_send, liftB_some, asB_bl, bindB_some]
      rw [isBoth]
      cases hs : d.s with
      | false => simp only [andT_f, bOut_eq, bindB_some, Bool.false_and]
      | true =>
        simp only [andT_t, t_cmp, e_cmp, e_ix, e_var0, e_varS, bindE_some, ix1_eq, e_lit, ixK_eq, x_tup, a0, retV_some, cmp1_eq]
        rw [et]
        simp only [bindE_some, cmpK_eq, c_eq eq, liftB_some, asB_bl, bindB_some, bOut_eq, Bool.true_and]
structure Rt (F : Fns) : Prop where
  parts : ∀ (h : CH) (ds : List Dd), (∀ d ∈ ds, d.ok) → ds.length ≤ 1000 → ∃ r h', F 41 [.tup (ds.map Dd.cv)] h = some (.ref r, h') ∧ h'[r]? = some (.lst ((parts ds).map .str)) ∧ Off [] h h' ∧ h.length ≤ r
  called : ∀ (h : CH) (r : Nat) (kvs : List (CV × CV)) (ns : List (List Nat)) (f : List Nat → List Nat), h[r]? = some (.dct kvs) → LK kvs → (∀ k ∈ ns, dget kvs (.str k) = some (.str (f k))) → ∀ ds : List Dd, (∀ d ∈ ds, InN ns d) → ds.length ≤ 1000 → ∃ h', F 42 [.tup (ds.map Dd.cv), .ref r] h = some (.tup ((ds.map (Dd.ren f)).map Dd.cv), h') ∧ Off [] h h'
  signs : ∀ (h : CH) (t : List Nat), t.length ≤ 30000 → F 43 [.str t] h = some (.ref h.length, h ++ [.lst ((sg t).map fun c => .str [c])])
  show' : ShowIs F
  read : ∀ (h : CH) (ds : List Dd), (∀ d ∈ ds, d.ok) → ds.length ≤ 1000 → ∃ h', F 23 [.str (textOf ds)] h = some (.tup (ds.map Dd.cv), h') ∧ Off [] h h'
theorem text_inj {F : Fns} (R : Rt F) {xs ys : List Dd} (hx : ∀ d ∈ xs, d.ok) (hy : ∀ d ∈ ys, d.ok) (lx : xs.length ≤ 1000) (ly : ys.length ≤ 1000) (e : textOf xs = textOf ys) : xs = ys := by
  obtain ⟨h1, e1, _⟩ := R.read [] xs hx lx
  obtain ⟨h2, e2, _⟩ := R.read [] ys hy ly
  rw [e, e2] at e1
  simp only [Option.some.injEq, Prod.mk.injEq, CV.tup.injEq] at e1
  exact ((List.map_inj_right fun _ _ => Dd.cv_inj).mp e1.1).symm
def in44 : CSs := (.cons (.iff (.cmp .ne (.call 43 (.cons (.call 20 (.cons (.call 42 (.cons (.var 5) (.cons (.var 2) .nil))) .nil)) .nil)) (.call 43 (.cons (.call 20 (.cons (.var 5) .nil)) .nil))) (.cons (.ret (.lit (.bl false))) .nil) .nil) .nil)
theorem in44_ok (F : Fns) (W : Nat) (R : Rt F) {h : CH} {r : Nat} {kvs : List (CV × CV)} {ns : List (List Nat)} {f : List Nat → List Nat} (g : h[r]? = some (.dct kvs)) (lk : LK kvs) (hf : ∀ k ∈ ns, dget kvs (.str k) = some (.str (f k))) (Q : Ren6 ns f)
    {ds : List Dd} (hd : ∀ d ∈ ds, d.ok) (hn : ∀ d ∈ ds, InN ns d) (hl : ds.length ≤ 1000) {x0 x1 x3 x4 x5 : Option CV} : ∃ h', foB F W (.nm 5) in44 (.tup (ds.map Dd.cv)) [x0, x1, some (.ref r), x3, x4, x5] h = some (.nx, [x0, x1, some (.ref r), x3, x4, some (.tup (ds.map Dd.cv))], h') ∧ Off [] h h' := by
  obtain ⟨h1, e1, o1⟩ := R.called h r kvs ns f g lk hf ds hn hl
  have hr : ∀ d ∈ ds.map (Dd.ren f), d.ok := fun d hd' => by
    obtain ⟨x, hx, rfl⟩ := List.mem_map.mp hd'
    exact ren_ok Q (hd x hx) (hn x hx)
  obtain ⟨h2, e2, o2⟩ := R.show' h1 (ds.map (Dd.ren f)) hr (by rw [List.length_map]; exact hl)
  have e3 := R.signs h2 (textOf (ds.map (Dd.ren f))) (by have := text_len hr (by rw [List.length_map]; exact hl); omega)
  obtain ⟨h4, e4, o4⟩ := R.show' (h2 ++ [.lst ((sg (textOf (ds.map (Dd.ren f)))).map fun c => .str [c])]) ds hd hl
  have e5 := R.signs h4 (textOf ds) (by have := text_len hd hl; omega)
  rw [sgn_text Q hd hn] at e3 e4 o4
  have q := eqV_plL (h := h4 ++ [.lst ((sg (textOf ds)).map fun c => .str [c])]) (a := h2.length) (b := h4.length) (xs := (sg (textOf ds)).map fun c => .str [c]) (ys := (sg (textOf ds)).map fun c => .str [c]) (get_app (o4.get get_new (by simp))) get_new
    (pls_iff.mpr fun x hx => by obtain ⟨c, _, rfl⟩ := List.mem_map.mp hx; rfl) (pls_iff.mpr fun x hx => by obtain ⟨c, _, rfl⟩ := List.mem_map.mp hx; rfl)
  simp only [decide_true] at q
  refine ⟨h4 ++ [.lst ((sg (textOf ds)).map fun c => .str [c])], ?_, ((o1.trans o2).trans (Off.app [] _ _)).trans (o4.trans (Off.app [] _ _))⟩
  rw [foB_nm]
  simp only [in44, run_eq, List.length_cons, List.length_nil, List.map_cons, List.map_nil, List.cons_append, List.nil_append, List.replicate, List.set_cons_zero, List.set_cons_succ, x_cons, x_nil, seqC_nx, seqC_rt, x_asg, asgK_nm, asgK_sub, retS_some, retH_some, sub1_eq, sub2_eq, x_expr, exK_eq, x_ret, retK_eq, x_retn, x_iff, iffK_t, iffK_f, x_fo, x_pas, x_par, runK_nx, runK_rt, bindE_some, bindL_some, bindO_some, bindI_some, bindB_some, liftB_some, retV_some, asB_bl, bin1_eq, e_bin, cmpK_eq, cmp1_eq, e_cmp, cmpR_t, cmpR_f, cmp2a_eq, e_cmp2, cmpR3_t, cmpR3_f, cmp3a_eq, e_cmp3, e_and, e_or, andK_t, andK_f, orK_t, orK_f, bOut_eq, notK_eq, e_not, negK_int, e_neg, iteK_t, iteK_f, e_ite, tupK2_eq, e_tup, lstK_eq, e_lst, e_dct0, ixK_eq, ix1_eq, e_ix, sl1_eq, sl2_eq, e_sl, e_rev, o_no, o_ex, oK_int, e_call, e_bi, e_me, s_nil, s_cons, consA_eq, consB_eq, e_lit, e_glob, e_var0, e_varS, e_comp, i_range1, i_range2, r2a_eq, i_val, vK_tup, vK_str, t_lit, t_cmp, t_cmp2, t_cmp3, t_call, t_bi, t_var, t_and, t_or, t_not, andT_t, andT_f, orT_t, orT_f, notT_eq, v_add, v_sub, c_lt, c_le, c_gt, c_ge, c_eqI, c_neI, c_eqS, c_neS, c_isN, c_isnotN, c_isB, c_isnotB, x_tup, x_lstV, sl_lstV, sl_tup, b_lenT, b_lenV, decide_true, decide_false, Bool.not_true, Bool.not_false, e1, e2, e3, e4, e5, c_ne q]
def t3E : CE := (.cmp .ne (.bi .len (.cons (.var 3) .nil)) (.bin .sub (.bin .add (.bi .len (.cons (.call 41 (.cons (.var 0) .nil)) .nil)) (.bi .len (.cons (.call 41 (.cons (.var 1) .nil)) .nil))) (.bi .int (.cons (.var 4) .nil))))
def t4E : CE := (.and (.not (.var 4)) (.cmp .ne (.var 3) (.bin .add (.call 41 (.cons (.var 0) .nil)) (.call 41 (.cons (.var 1) .nil)))))
def t5E : CE := (.or (.cmp .ne (.call 23 (.cons (.call 20 (.cons (.bin .add (.var 0) (.var 1)) .nil)) .nil)) (.bin .add (.var 0) (.var 1))) (.cmp .ne (.cmp .eq (.call 20 (.cons (.var 0) .nil)) (.call 20 (.cons (.var 1) .nil))) (.cmp .eq (.var 0) (.var 1))))
theorem pls_p (n : Nat) (ds : List Dd) : pls n ((parts ds).map CV.str) = true := pls_strs n _
section
variable (F : Fns) (W : Nat) (R : Rt F) {h : CH} {xs ys : List Dd} (hx : ∀ d ∈ xs, d.ok) (hy : ∀ d ∈ ys, d.ok) (lx : xs.length ≤ 400) (ly : ys.length ≤ 400) {r : Nat} (g : h[r]? = some (.lst ((parts (xs ++ ys)).map .str))) {x2 x5 : Option CV}
include R hx hy lx ly
theorem vadd (h : CH) : binV .add (.tup (xs.map Dd.cv)) (.tup (ys.map Dd.cv)) h = some (.tup ((xs ++ ys).map Dd.cv), h) := by
  rw [v_addT (by rw [List.length_map, List.length_map]; exact lim_big (by omega)), List.map_append]
include g
theorem t3_ok : ∃ h', testC F t3E [some (.tup (xs.map Dd.cv)), some (.tup (ys.map Dd.cv)), x2, some (.ref r), some (.bl (met xs ys)), x5] h = some (false, h') ∧ Off [] h h' := by
  obtain ⟨r1, h1, e1, g1, o1, n1⟩ := R.parts h xs hx (by omega)
  obtain ⟨r2, h2, e2, g2, o2, n2⟩ := R.parts h1 ys hy (by omega)
  have l0 := b_lenL g
  have l1 := b_lenL g1
  have l2 := b_lenL g2
  refine ⟨h2, ?_, o1.trans o2⟩
  have pa := (parts_app xs ys).1
  have : decide ((((parts (xs ++ ys)).length : Nat) : Int) = (((parts xs).length : Nat) : Int) + (((parts ys).length : Nat) : Int) - (if met xs ys = true then 1 else 0)) = true := decide_eq_true (by split at pa <;> simp_all <;> omega)
  simp only [t3E, run_eq, List.length_cons, List.length_nil, List.map_cons, List.map_nil, List.cons_append, List.nil_append, List.replicate, List.set_cons_zero, List.set_cons_succ, x_cons, x_nil, seqC_nx, seqC_rt, x_asg, asgK_nm, asgK_sub, retS_some, retH_some, sub1_eq, sub2_eq, x_expr, exK_eq, x_ret, retK_eq, x_retn, x_iff, iffK_t, iffK_f, x_fo, x_pas, x_par, runK_nx, runK_rt, bindE_some, bindL_some, bindO_some, bindI_some, bindB_some, liftB_some, retV_some, asB_bl, bin1_eq, e_bin, cmpK_eq, cmp1_eq, e_cmp, cmpR_t, cmpR_f, cmp2a_eq, e_cmp2, cmpR3_t, cmpR3_f, cmp3a_eq, e_cmp3, e_and, e_or, andK_t, andK_f, orK_t, orK_f, bOut_eq, notK_eq, e_not, negK_int, e_neg, iteK_t, iteK_f, e_ite, tupK2_eq, e_tup, lstK_eq, e_lst, e_dct0, ixK_eq, ix1_eq, e_ix, sl1_eq, sl2_eq, e_sl, e_rev, o_no, o_ex, oK_int, e_call, e_bi, e_me, s_nil, s_cons, consA_eq, consB_eq, e_lit, e_glob, e_var0, e_varS, e_comp, i_range1, i_range2, r2a_eq, i_val, vK_tup, vK_str, t_lit, t_cmp, t_cmp2, t_cmp3, t_call, t_bi, t_var, t_and, t_or, t_not, andT_t, andT_f, orT_t, orT_f, notT_eq, v_add, v_sub, c_lt, c_le, c_gt, c_ge, c_eqI, c_neI, c_eqS, c_neS, c_isN, c_isnotN, c_isB, c_isnotB, x_tup, x_lstV, sl_lstV, sl_tup, b_lenT, b_lenV, decide_true, decide_false, Bool.not_true, Bool.not_false, e1, e2, l0, l1, l2, List.length_map, b_intB, this]
theorem t4_ok : ∃ h', testC F t4E [some (.tup (xs.map Dd.cv)), some (.tup (ys.map Dd.cv)), x2, some (.ref r), some (.bl (met xs ys)), x5] h = some (false, h') ∧ Off [] h h' := by
  cases hm : met xs ys with
  | true => exact ⟨h, by simp only [t4E, run_eq, List.length_cons, List.length_nil, List.map_cons, List.map_nil, List.cons_append, List.nil_append, List.replicate, List.set_cons_zero, List.set_cons_succ, x_cons, x_nil, seqC_nx, seqC_rt, x_asg, asgK_nm, asgK_sub, retS_some, retH_some, sub1_eq, sub2_eq, x_expr, exK_eq, x_ret, retK_eq, x_retn, x_iff, iffK_t, iffK_f, x_fo, x_pas, x_par, runK_nx, runK_rt, bindE_some, bindL_some, bindO_some, bindI_some, bindB_some, liftB_some, retV_some, asB_bl, bin1_eq, e_bin, cmpK_eq, cmp1_eq, e_cmp, cmpR_t, cmpR_f, cmp2a_eq, e_cmp2, cmpR3_t, cmpR3_f, cmp3a_eq, e_cmp3, e_and, e_or, andK_t, andK_f, orK_t, orK_f, bOut_eq, notK_eq, e_not, negK_int, e_neg, iteK_t, iteK_f, e_ite, tupK2_eq, e_tup, lstK_eq, e_lst, e_dct0, ixK_eq, ix1_eq, e_ix, sl1_eq, sl2_eq, e_sl, e_rev, o_no, o_ex, oK_int, e_call, e_bi, e_me, s_nil, s_cons, consA_eq, consB_eq, e_lit, e_glob, e_var0, e_varS, e_comp, i_range1, i_range2, r2a_eq, i_val, vK_tup, vK_str, t_lit, t_cmp, t_cmp2, t_cmp3, t_call, t_bi, t_var, t_and, t_or, t_not, andT_t, andT_f, orT_t, orT_f, notT_eq, v_add, v_sub, c_lt, c_le, c_gt, c_ge, c_eqI, c_neI, c_eqS, c_neS, c_isN, c_isnotN, c_isB, c_isnotB, x_tup, x_lstV, sl_lstV, sl_tup, b_lenT, b_lenV, decide_true, decide_false, Bool.not_true, Bool.not_false], .refl _ _⟩
  | false =>
    obtain ⟨r1, h1, e1, g1, o1, n1⟩ := R.parts h xs hx (by omega)
    obtain ⟨r2, h2, e2, g2, o2, n2⟩ := R.parts h1 ys hy (by omega)
    have pl1 := parts_len xs
    have pl2 := parts_len ys
    have ad : binV .add (.ref r1) (.ref r2) h2 = some (.ref h2.length, h2 ++ [.lst ((parts xs).map CV.str ++ (parts ys).map CV.str)]) := by
      rw [v_addR, o2.get g1 (by simp), g2, addO_ok (by rw [List.length_map, List.length_map]; exact lim_big (by omega))]
    have q := eqV_plL (h := h2 ++ [.lst ((parts xs).map CV.str ++ (parts ys).map CV.str)]) (a := r) (b := h2.length) (get_app ((o1.trans o2).get g (by simp))) get_new (pls_p 18 _) (by rw [← List.map_append]; exact pls_strs 18 _)
    rw [(parts_app xs ys).2 hm, List.map_append, decide_eq_true rfl] at q
    refine ⟨_, ?_, (o1.trans o2).trans (Off.app [] _ [.lst ((parts xs).map CV.str ++ (parts ys).map CV.str)])⟩
    simp only [t4E, run_eq, List.length_cons, List.length_nil, List.map_cons, List.map_nil, List.cons_append, List.nil_append, List.replicate, List.set_cons_zero, List.set_cons_succ, x_cons, x_nil, seqC_nx, seqC_rt, x_asg, asgK_nm, asgK_sub, retS_some, retH_some, sub1_eq, sub2_eq, x_expr, exK_eq, x_ret, retK_eq, x_retn, x_iff, iffK_t, iffK_f, x_fo, x_pas, x_par, runK_nx, runK_rt, bindE_some, bindL_some, bindO_some, bindI_some, bindB_some, liftB_some, retV_some, asB_bl, bin1_eq, e_bin, cmpK_eq, cmp1_eq, e_cmp, cmpR_t, cmpR_f, cmp2a_eq, e_cmp2, cmpR3_t, cmpR3_f, cmp3a_eq, e_cmp3, e_and, e_or, andK_t, andK_f, orK_t, orK_f, bOut_eq, notK_eq, e_not, negK_int, e_neg, iteK_t, iteK_f, e_ite, tupK2_eq, e_tup, lstK_eq, e_lst, e_dct0, ixK_eq, ix1_eq, e_ix, sl1_eq, sl2_eq, e_sl, e_rev, o_no, o_ex, oK_int, e_call, e_bi, e_me, s_nil, s_cons, consA_eq, consB_eq, e_lit, e_glob, e_var0, e_varS, e_comp, i_range1, i_range2, r2a_eq, i_val, vK_tup, vK_str, t_lit, t_cmp, t_cmp2, t_cmp3, t_call, t_bi, t_var, t_and, t_or, t_not, andT_t, andT_f, orT_t, orT_f, notT_eq, v_add, v_sub, c_lt, c_le, c_gt, c_ge, c_eqI, c_neI, c_eqS, c_neS, c_isN, c_isnotN, c_isB, c_isnotB, x_tup, x_lstV, sl_lstV, sl_tup, b_lenT, b_lenV, decide_true, decide_false, Bool.not_true, Bool.not_false, e1, e2, ad, c_ne q]
omit g
theorem t5_ok {x3 x4 : Option CV} : ∃ h', testC F t5E [some (.tup (xs.map Dd.cv)), some (.tup (ys.map Dd.cv)), x2, x3, x4, x5] h = some (false, h') ∧ Off [] h h' := by
  have hxy : ∀ d ∈ xs ++ ys, d.ok := fun d hd => (List.mem_append.mp hd).elim (hx d) (hy d)
  have lxy : (xs ++ ys).length ≤ 1000 := by rw [List.length_append]; omega
  obtain ⟨h1, e1, o1⟩ := R.show' h (xs ++ ys) hxy lxy
  obtain ⟨h2, e2, o2⟩ := R.read h1 (xs ++ ys) hxy lxy
  obtain ⟨h3, e3, o3⟩ := R.show' h2 xs hx (by omega)
  obtain ⟨h4, e4, o4⟩ := R.show' h3 ys hy (by omega)
  have va := vadd F R hx hy lx ly
  have q1 : ∀ h, eqV h (.tup ((xs ++ ys).map Dd.cv)) (.tup ((xs ++ ys).map Dd.cv)) = some true := fun h => by rw [eq_rows]; simp
  have q2 := eq_rows (h := h4) (ds := xs) (es := ys)
  have q3 : decide (textOf xs = textOf ys) = decide (xs = ys) := decide_eq_decide.mpr ⟨text_inj R hx hy (by omega) (by omega), fun e => by rw [e]⟩
  refine ⟨h4, ?_, (o1.trans o2).trans (o3.trans o4)⟩
  simp only [t5E, run_eq, List.length_cons, List.length_nil, List.map_cons, List.map_nil, List.cons_append, List.nil_append, List.replicate, List.set_cons_zero, List.set_cons_succ, x_cons, x_nil, seqC_nx, seqC_rt, x_asg, asgK_nm, asgK_sub, retS_some, retH_some, sub1_eq, sub2_eq, x_expr, exK_eq, x_ret, retK_eq, x_retn, x_iff, iffK_t, iffK_f, x_fo, x_pas, x_par, runK_nx, runK_rt, bindE_some, bindL_some, bindO_some, bindI_some, bindB_some, liftB_some, retV_some, asB_bl, bin1_eq, e_bin, cmpK_eq, cmp1_eq, e_cmp, cmpR_t, cmpR_f, cmp2a_eq, e_cmp2, cmpR3_t, cmpR3_f, cmp3a_eq, e_cmp3, e_and, e_or, andK_t, andK_f, orK_t, orK_f, bOut_eq, notK_eq, e_not, negK_int, e_neg, iteK_t, iteK_f, e_ite, tupK2_eq, e_tup, lstK_eq, e_lst, e_dct0, ixK_eq, ix1_eq, e_ix, sl1_eq, sl2_eq, e_sl, e_rev, o_no, o_ex, oK_int, e_call, e_bi, e_me, s_nil, s_cons, consA_eq, consB_eq, e_lit, e_glob, e_var0, e_varS, e_comp, i_range1, i_range2, r2a_eq, i_val, vK_tup, vK_str, t_lit, t_cmp, t_cmp2, t_cmp3, t_call, t_bi, t_var, t_and, t_or, t_not, andT_t, andT_f, orT_t, orT_f, notT_eq, v_add, v_sub, c_lt, c_le, c_gt, c_ge, c_eqI, c_neI, c_eqS, c_neS, c_isN, c_isnotN, c_isB, c_isnotB, x_tup, x_lstV, sl_lstV, sl_tup, b_lenT, b_lenV, decide_true, decide_false, Bool.not_true, Bool.not_false, va, e1, e2, c_ne (q1 _), e3, e4, q3, c_eq q2, c_ne (eqV_bl _ _ _), beq_self_eq_true]
end
theorem run_right6 (F : Fns) (W : Nat) (R : Rt F) {h : CH} {r : Nat} {kvs : List (CV × CV)} {ns : List (List Nat)} {f : List Nat → List Nat} (g : h[r]? = some (.dct kvs)) (lk : LK kvs) (hf : ∀ k ∈ ns, dget kvs (.str k) = some (.str (f k))) (Q : Ren6 ns f)
    {xs ys : List Dd} (hx : ∀ d ∈ xs, d.ok) (hy : ∀ d ∈ ys, d.ok) (nx : ∀ d ∈ xs, InN ns d) (ny : ∀ d ∈ ys, InN ns d) (lx : xs.length ≤ 400) (ly : ys.length ≤ 400) :
    ∃ h', runC F W n44.length b44 [.tup (xs.map Dd.cv), .tup (ys.map Dd.cv), .ref r] h = some (.bl true, h') ∧ Off [] h h' := by
  have hxy : ∀ d ∈ xs ++ ys, d.ok := fun d hd => (List.mem_append.mp hd).elim (hx d) (hy d)
  have nxy : ∀ d ∈ xs ++ ys, InN ns d := fun d hd => (List.mem_append.mp hd).elim (nx d) (ny d)
  have lxy : (xs ++ ys).length ≤ 1000 := by rw [List.length_append]; omega
  have va := vadd F R hx hy lx ly
  obtain ⟨r1, h1, e1, g1, o1, n1⟩ := R.parts h (xs ++ ys) hxy lxy
  have e2 := met_ev F (h := h1) (xs := xs) (ys := ys) (x2 := some (.ref r)) (x3 := some (.ref r1)) (x4 := none) (x5 := none)
  obtain ⟨h3, e3, o3⟩ := t3_ok F R hx hy lx ly g1 (x2 := some (.ref r)) (x5 := none)
  obtain ⟨h4, e4, o4⟩ := t4_ok F R hx hy lx ly (o3.get g1 (by simp)) (x2 := some (.ref r)) (x5 := none)
  obtain ⟨h5, e5, o5⟩ := t5_ok F R hx hy lx ly (h := h4) (x2 := some (.ref r)) (x3 := some (.ref r1)) (x4 := some (.bl (met xs ys))) (x5 := none)
  have o15 := (o1.trans o3).trans (o4.trans o5)
  have g5 := o15.get g (by simp)
  obtain ⟨h6, e6, o6⟩ := in44_ok F W R (h := h5 ++ [.lst [.tup (xs.map Dd.cv), .tup (ys.map Dd.cv), .tup ((xs ++ ys).map Dd.cv)]]) (get_app g5) lk hf Q hx nx (by omega) (x0 := some (.tup (xs.map Dd.cv))) (x1 := some (.tup (ys.map Dd.cv))) (x3 := some (.ref r1)) (x4 := some (.bl (met xs ys))) (x5 := none)
  obtain ⟨h7, e7, o7⟩ := in44_ok F W R (h := h6) (o6.get (get_app g5) (by simp)) lk hf Q hy ny (by omega) (x0 := some (.tup (xs.map Dd.cv))) (x1 := some (.tup (ys.map Dd.cv))) (x3 := some (.ref r1)) (x4 := some (.bl (met xs ys))) (x5 := some (.tup (xs.map Dd.cv)))
  obtain ⟨h8, e8, o8⟩ := in44_ok F W R (h := h7) (o7.get (o6.get (get_app g5) (by simp)) (by simp)) lk hf Q hxy nxy (by omega) (x0 := some (.tup (xs.map Dd.cv))) (x1 := some (.tup (ys.map Dd.cv))) (x3 := some (.ref r1)) (x4 := some (.bl (met xs ys))) (x5 := some (.tup (ys.map Dd.cv)))
  have gl : (h5 ++ [CO.lst [.tup (xs.map Dd.cv), .tup (ys.map Dd.cv), .tup ((xs ++ ys).map Dd.cv)]])[h5.length]? = some (.lst [.tup (xs.map Dd.cv), .tup (ys.map Dd.cv), .tup ((xs ++ ys).map Dd.cv)]) := get_new
  have ef : foK F W (.nm 5) in44 [some (.tup (xs.map Dd.cv)), some (.tup (ys.map Dd.cv)), some (.ref r), some (.ref r1), some (.bl (met xs ys)), none] (.cell h5.length) (h5 ++ [CO.lst [.tup (xs.map Dd.cv), .tup (ys.map Dd.cv), .tup ((xs ++ ys).map Dd.cv)]]) = some (.nx, [some (.tup (xs.map Dd.cv)), some (.tup (ys.map Dd.cv)), some (.ref r), some (.ref r1), some (.bl (met xs ys)), some (.tup ((xs ++ ys).map Dd.cv))], h8) := by
    have i0 := hs_cell gl _ (.refl _ _) 0
    have i1 := hs_cell gl _ o6 1
    have i2 := hs_cell gl _ (o6.trans o7) 2
    have i3 := hs_cell gl _ ((o6.trans o7).trans o8) 3
    unfold foK
    rw [src_cellL gl]
    simp only [List.length_cons, List.length_nil]
    simp only [List.getElem?_cons_zero, List.getElem?_cons_succ, List.getElem?_nil] at i0 i1 i2 i3
    simp only [forGo, i0, i1, i2, i3, e6, e7, e8, Nat.reduceAdd]
  unfold in44 at ef
  refine ⟨h8, ?_, (o15.trans (Off.app [] _ _)).trans ((o6.trans o7).trans o8)⟩
  unfold metE at e2
  unfold t3E at e3
  unfold t4E at e4
  unfold t5E at e5
  have ee : evalC F (.lst (.cons (.var 0) (.cons (.var 1) (.cons (.bin .add (.var 0) (.var 1)) .nil)))) [some (.tup (xs.map Dd.cv)), some (.tup (ys.map Dd.cv)), some (.ref r), some (.ref r1), some (.bl (met xs ys)), none] h5 = some (.ref h5.length, h5 ++ [CO.lst [.tup (xs.map Dd.cv), .tup (ys.map Dd.cv), .tup ((xs ++ ys).map Dd.cv)]]) := by
    simp only [run_eq, List.length_cons, List.length_nil, List.map_cons, List.map_nil, List.cons_append, List.nil_append, List.replicate, List.set_cons_zero, List.set_cons_succ, x_cons, x_nil, seqC_nx, seqC_rt, x_asg, asgK_nm, asgK_sub, retS_some, retH_some, sub1_eq, sub2_eq, x_expr, exK_eq, x_ret, retK_eq, x_retn, x_iff, iffK_t, iffK_f, x_fo, x_pas, x_par, runK_nx, runK_rt, bindE_some, bindL_some, bindO_some, bindI_some, bindB_some, liftB_some, retV_some, asB_bl, bin1_eq, e_bin, cmpK_eq, cmp1_eq, e_cmp, cmpR_t, cmpR_f, cmp2a_eq, e_cmp2, cmpR3_t, cmpR3_f, cmp3a_eq, e_cmp3, e_and, e_or, andK_t, andK_f, orK_t, orK_f, bOut_eq, notK_eq, e_not, negK_int, e_neg, iteK_t, iteK_f, e_ite, tupK2_eq, e_tup, lstK_eq, e_lst, e_dct0, ixK_eq, ix1_eq, e_ix, sl1_eq, sl2_eq, e_sl, e_rev, o_no, o_ex, oK_int, e_call, e_bi, e_me, s_nil, s_cons, consA_eq, consB_eq, e_lit, e_glob, e_var0, e_varS, e_comp, i_range1, i_range2, r2a_eq, i_val, vK_tup, vK_str, t_lit, t_cmp, t_cmp2, t_cmp3, t_call, t_bi, t_var, t_and, t_or, t_not, andT_t, andT_f, orT_t, orT_f, notT_eq, v_add, v_sub, c_lt, c_le, c_gt, c_ge, c_eqI, c_neI, c_eqS, c_neS, c_isN, c_isnotN, c_isB, c_isnotB, x_tup, x_lstV, sl_lstV, sl_tup, b_lenT, b_lenV, decide_true, decide_false, Bool.not_true, Bool.not_false, va]
  simp only [b44, n44, run_eq, List.length_cons, List.length_nil, List.map_cons, List.map_nil, List.replicate, List.cons_append, List.nil_append, Nat.reduceSub, Nat.reduceAdd, x_cons, x_asg, e_call, s_cons, s_nil, e_bin, e_var0, e_varS, bindE_some, bin1_eq, va, consA_eq, consB_eq, bindL_some, e1, asgK_nm, seqC_nx, List.set_cons_succ, List.set_cons_zero, e2]
  simp only [x_cons, x_iff, e3, e4, e5, bindB_some, iffK_f, x_nil, seqC_nx, x_fo, i_val, ee, bindE_some, vK_lst gl, bindI_some, ef, x_ret, e_lit, retK_eq, seqC_rt, runK_rt]
end TH

namespace TH
open PySem
/-! ### k06 -/
def nw (j : Nat) : List Nat := (97 + j) :: [113, 114].take (j % 3)
theorem nw_nm {j : Nat} (h : j < 8) : Nm (nw j) := by
  have : ∀ j < 8, 1 ≤ (nw j).length ∧ (nw j).length ≤ 8 ∧ ∀ c ∈ nw j, c ∈ al := by decide
  exact this j h
theorem nw_inj {i j : Nat} (e : nw i = nw j) : i = j := by
  unfold nw at e
  have := (List.cons.inj e).1
  omega
def eltE : CE := (.tup (.cons (.ix (.var 7) (.var 9)) (.cons (.bin .add (.ix (.lit (.str [97, 98, 99, 100, 101, 102, 103, 104])) (.var 9)) (.sl (.lit (.str [113, 114])) .no (.ex (.bin .mod (.var 9) (.lit (.int 3)))))) .nil)))
def callE : CE := (.bi .dict1 (.cons (.comp eltE 9 (.range1 (.bi .len (.cons (.var 7) .nil))) (.lit (.bl true))) .nil))
/-- the names as the dict calls them -/
theorem call_ev (F : Fns) {h : CH} {r : Nat} {ts : List (List Nat)} (g : h[r]? = some (.lst (ts.map .str))) (nd : ts.Nodup) (hl : ts.length ≤ 8) {x0 x1 x2 x3 x4 x5 x6 x8 : Option CV} :
    ∃ (kvs : List (CV × CV)) (f : List Nat → List Nat) (q : Nat) (h' : CH), evalC F callE [x0, x1, x2, x3, x4, x5, x6, some (.ref r), x8, none] h = some (.ref q, h') ∧ h'[q]? = some (.dct kvs) ∧ LK kvs ∧ (∀ k ∈ ts, dget kvs (.str k) = some (.str (f k))) ∧ Ren6 ts f ∧ Off [] h h' := by
  let nwA : Nat → CV := fun j => .str (nw j)
  let P : List (CV × CV) := (List.range ts.length).map fun j => (CV.str (ts.getD j []), CV.str (nw j))
  have ec := comp_range (F := F) (s := [x0, x1, x2, x3, x4, x5, x6, some (.ref r), x8, none]) (h := h) (elt := eltE) (i := 9) (n := ts.length) (fun j => .tup [.str (ts.getD j []), .str (nw j)]) (by omega) (fun j hj => by
    have e1 : (ts.map CV.str)[j]? = some (.str (ts.getD j [])) := by rw [List.getElem?_map, List.getD_eq_getElem?_getD, List.getElem?_eq_getElem hj]; rfl
    have ix : ixV (.ref r) (.int ((0 : Int) + (j : Int))) h = some (.str (ts.getD j [])) := by
      rw [Int.zero_add, x_lst g, atI_nat, e1]
    have ix2 : ixV (.str [97, 98, 99, 100, 101, 102, 103, 104]) (.int ((0 : Int) + (j : Int))) h = some (.str [97 + j]) := by
      have : j < 8 := by omega
      match j, this with
      | 0, _ => rfl
      | 1, _ => rfl
      | 2, _ => rfl
      | 3, _ => rfl
      | 4, _ => rfl
      | 5, _ => rfl
      | 6, _ => rfl
      | 7, _ => rfl
    have md : binV .mod (.int ((0 : Int) + (j : Int))) (.int 3) h = some (.int ((j % 3 : Nat) : Int), h) := by
      rw [Int.zero_add]
      show (if (0 : Int) < 3 then some (CV.int ((j : Int) % 3), h) else none) = _
      rw [if_pos (by decide)]
      rfl
    have sl : slV (.str [113, 114]) none (some ((j % 3 : Nat) : Int)) h = some (.str ([113, 114].take (j % 3)), h) := by
      show (if (2 : Nat) ≤ lim then some (CV.str (cut [113, 114] none (some ((j % 3 : Nat) : Int))), h) else none) = _
      rw [if_pos (lim_big (by omega)), cut_to]
    have ad : binV .add (.str [97 + j]) (.str ([113, 114].take (j % 3))) h = some (.str (nw j), h) := by
      rw [v_addS (lim_big (by simp; omega))]
      rfl
    simp only [eltE, run_eq, List.length_cons, List.length_nil, List.map_cons, List.map_nil, List.cons_append, List.nil_append, List.replicate, List.set_cons_zero, List.set_cons_succ, x_cons, x_nil, seqC_nx, seqC_rt, x_asg, asgK_nm, asgK_sub, retS_some, retH_some, sub1_eq, sub2_eq, x_expr, exK_eq, x_ret, retK_eq, x_retn, x_iff, iffK_t, iffK_f, x_fo, x_pas, x_par, runK_nx, runK_rt, bindE_some, bindL_some, bindO_some, bindI_some, bindB_some, liftB_some, retV_some, asB_bl, bin1_eq, e_bin, cmpK_eq, cmp1_eq, e_cmp, cmpR_t, cmpR_f, cmp2a_eq, e_cmp2, cmpR3_t, cmpR3_f, cmp3a_eq, e_cmp3, e_and, e_or, andK_t, andK_f, orK_t, orK_f, bOut_eq, notK_eq, e_not, negK_int, e_neg, iteK_t, iteK_f, e_ite, tupK2_eq, e_tup, lstK_eq, e_lst, e_dct0, ixK_eq, ix1_eq, e_ix, sl1_eq, sl2_eq, e_sl, e_rev, o_no, o_ex, oK_int, e_call, e_bi, e_me, s_nil, s_cons, consA_eq, consB_eq, e_lit, e_glob, e_var0, e_varS, e_comp, i_range1, i_range2, r2a_eq, i_val, vK_tup, vK_str, t_lit, t_cmp, t_cmp2, t_cmp3, t_call, t_bi, t_var, t_and, t_or, t_not, andT_t, andT_f, orT_t, orT_f, notT_eq, v_add, v_sub, c_lt, c_le, c_gt, c_ge, c_eqI, c_neI, c_eqS, c_neS, c_isN, c_isnotN, c_isB, c_isnotB, x_tup, x_lstV, sl_lstV, sl_tup, b_lenT, b_lenV, decide_true, decide_false, Bool.not_true, Bool.not_false, ix, ix2, md, sl, ad])
  have em : ((List.range ts.length).map fun j => CV.tup [.str (ts.getD j []), .str (nw j)]) = (List.range ts.length).map fun j => CV.tup [CV.str (ts.getD j []), CV.str (nw j)] := rfl
  have hp := pairs_map (fun j => CV.str (ts.getD j [])) (fun j => CV.str (nw j)) (List.range ts.length)
  have bd := b_dict (get_new (h := h) (o := CO.lst ((List.range ts.length).map fun j => CV.tup [CV.str (ts.getD j []), CV.str (nw j)]))) hp (fun p hp => by
    obtain ⟨j, _, rfl⟩ := List.mem_map.mp hp
    rfl)
  have bl := b_lenL g
  have hkeys : P.map (·.1) = ts.map CV.str := by
    refine List.ext_getElem (by simp [P]) fun i h1 h2 => ?_
    have hi : i < ts.length := by simpa using h2
    simp [P, List.getD_eq_getElem?_getD, List.getElem?_eq_getElem hi]
  have ndk : (P.map (·.1)).Nodup := by
    rw [hkeys]
    exact List.pairwise_map.mpr (nd.imp fun h e => h (str_injH e))
  refine ⟨foldP [] P, fun k => match ts.findIdx? (fun z => decide (z = k)) with | some j => nw j | none => [], _, _, ?_, get_new (h := h ++ [CO.lst ((List.range ts.length).map fun j => CV.tup [CV.str (ts.getD j []), CV.str (nw j)])]), ?_, ?_, ⟨?_, ?_⟩, ?_⟩
  · have sm : small62 (((ts.map CV.str).length : Nat) : Int) = true := by unfold small62; simp only [Bool.and_eq_true, decide_eq_true_eq, List.length_map]; omega
    rw [List.length_map] at bl sm
    simp only [callE, run_eq, List.length_cons, List.length_nil, List.map_cons, List.map_nil, List.cons_append, List.nil_append, List.replicate, List.set_cons_zero, List.set_cons_succ, x_cons, x_nil, seqC_nx, seqC_rt, x_asg, asgK_nm, asgK_sub, retS_some, retH_some, sub1_eq, sub2_eq, x_expr, exK_eq, x_ret, retK_eq, x_retn, x_iff, iffK_t, iffK_f, x_fo, x_pas, x_par, runK_nx, runK_rt, bindE_some, bindL_some, bindO_some, bindI_some, bindB_some, liftB_some, retV_some, asB_bl, bin1_eq, e_bin, cmpK_eq, cmp1_eq, e_cmp, cmpR_t, cmpR_f, cmp2a_eq, e_cmp2, cmpR3_t, cmpR3_f, cmp3a_eq, e_cmp3, e_and, e_or, andK_t, andK_f, orK_t, orK_f, bOut_eq, notK_eq, e_not, negK_int, e_neg, iteK_t, iteK_f, e_ite, tupK2_eq, e_tup, lstK_eq, e_lst, e_dct0, ixK_eq, ix1_eq, e_ix, sl1_eq, sl2_eq, e_sl, e_rev, o_no, o_ex, oK_int, e_call, e_bi, e_me, s_nil, s_cons, consA_eq, consB_eq, e_lit, e_glob, e_var0, e_varS, e_comp, i_range1, i_range2, r2a_eq, i_val, vK_tup, vK_str, t_lit, t_cmp, t_cmp2, t_cmp3, t_call, t_bi, t_var, t_and, t_or, t_not, andT_t, andT_f, orT_t, orT_f, notT_eq, v_add, v_sub, c_lt, c_le, c_gt, c_ge, c_eqI, c_neI, c_eqS, c_neS, c_isN, c_isnotN, c_isB, c_isnotB, x_tup, x_lstV, sl_lstV, sl_tup, b_lenT, b_lenV, decide_true, decide_false, Bool.not_true, Bool.not_false, bl, r1K_int sm, Int.toNat_natCast, ec, bd]
    rfl
  · exact foldP_lk _ _ (fun p hp => by cases hp) fun p hp => by
      obtain ⟨j, _, rfl⟩ := List.mem_map.mp hp
      rfl
  · intro k hk
    obtain ⟨j, hj, e⟩ := List.mem_iff_getElem.mp hk
    have hf : ts.findIdx? (fun z => decide (z = k)) = some j := by
      rw [List.findIdx?_eq_some_iff_getElem]
      refine ⟨hj, by simpa using e, fun i hi => ?_⟩
      have : ts[i] ≠ ts[j] := List.pairwise_iff_getElem.mp nd i j (by omega) hj hi
      simpa [← e] using this
    simp only [hf]
    refine foldP_at _ _ ndk ?_
    refine List.mem_map.mpr ⟨j, List.mem_range.mpr hj, ?_⟩
    rw [List.getD_eq_getElem?_getD, List.getElem?_eq_getElem hj, ← e]
    rfl
  · intro k hk
    have hs : (ts.findIdx? fun z => decide (z = k)).isSome = true := by
      rw [List.findIdx?_isSome]
      exact List.any_eq_true.mpr ⟨k, hk, by simp⟩
    obtain ⟨j, hj⟩ := Option.isSome_iff_exists.mp hs
    simp only [hj]
    exact nw_nm (by have := (List.findIdx?_eq_some_iff_getElem.mp hj).1; omega)
  · intro k hk l hl' e
    have hs : ∀ k ∈ ts, ∃ j, ts.findIdx? (fun z => decide (z = k)) = some j ∧ ∃ h : j < ts.length, ts[j] = k := fun k hk => by
      have hs : (ts.findIdx? fun z => decide (z = k)).isSome = true := by
        rw [List.findIdx?_isSome]
        exact List.any_eq_true.mpr ⟨k, hk, by simp⟩
      obtain ⟨j, hj⟩ := Option.isSome_iff_exists.mp hs
      obtain ⟨h1, h2, _⟩ := List.findIdx?_eq_some_iff_getElem.mp hj
      exact ⟨j, hj, h1, by simpa using h2⟩
    obtain ⟨i, hi, hi1, hi2⟩ := hs k hk
    obtain ⟨j, hj, hj1, hj2⟩ := hs l hl'
    simp only [hi, hj] at e
    have := nw_inj e
    subst this
    rw [← hi2, ← hj2]
  · exact (Off.app [] _ _).trans (Off.app [] _ _)
end TH

namespace TH
open PySem
structure Hs6 (F : Fns) : Prop where
  pool : ∀ (h : CH) (i : Int), ∃ h', F 4 [.int i] h = some (.ref h.length, h') ∧ Off [] h h' ∧ Pool h' h.length
  draw : Draws F
  hands : ∀ (h : CH) (p : Nat) (n : Int), Pool h p → 0 ≤ n → n < 26 → ∃ (ks : List (List Nat)) (h' : CH), F 7 [.ref p, .int n] h = some (.ref h.length, h') ∧ h'[h.length]? = some (.lst (ks.map CV.str)) ∧ ks.length = n.toNat ∧ ks.Nodup ∧ (∀ k ∈ ks, Nm k) ∧ Off [p] h h' ∧ Pool h' p
  any : ∀ (h : CH) (p r w : Nat) (ks ws : List (List Nat)), Pool h p → h[r]? = some (.lst (ks.map .str)) → h[w]? = some (.lst (ws.map .str)) → r ≠ p → w ≠ p → ks.Nodup → (∀ k ∈ ks, Nm k) → (∀ k ∈ ws, Nm k) → 2 ≤ ks.length → ks.length < 26 → 0 < ws.length → ws.length < 26 →
    ∃ xs h', F 13 [.ref p, .ref r, .ref w, .int 14] h = some (.tup xs, h') ∧ (∀ x ∈ xs, DeedIn (ks ++ ws) x) ∧ xs.length ≤ 14 ∧ Off [p] h h' ∧ Pool h' p
  right : ∀ (h : CH) (r : Nat) (kvs : List (CV × CV)) (ns : List (List Nat)) (f : List Nat → List Nat), h[r]? = some (.dct kvs) → LK kvs → (∀ k ∈ ns, dget kvs (.str k) = some (.str (f k))) → Ren6 ns f → ∀ xs ys : List Dd, (∀ d ∈ xs, d.ok) → (∀ d ∈ ys, d.ok) → (∀ d ∈ xs, InN ns d) → (∀ d ∈ ys, InN ns d) → xs.length ≤ 400 → ys.length ≤ 400 →
    ∃ h', F 44 [.tup (xs.map Dd.cv), .tup (ys.map Dd.cv), .ref r] h = some (.bl true, h') ∧ Off [] h h'
theorem dd_listIn {N : List (List Nat)} : ∀ {xs : List CV}, (∀ x ∈ xs, DeedIn N x) → ∃ ds : List Dd, xs = ds.map Dd.cv ∧ (∀ d ∈ ds, d.ok) ∧ ∀ d ∈ ds, InN N d
  | [], _ => ⟨[], rfl, (fun d hd => by cases hd), fun d hd => by cases hd⟩
  | x :: xs, h => by
    obtain ⟨k, a, b, c, rfl, hk, ha, hb, hc, hab, m1, m2, m3⟩ := h x List.mem_cons_self
    obtain ⟨ds, rfl, hds, hn⟩ := dd_listIn fun y hy => h y (List.mem_cons_of_mem _ hy)
    have key : ∀ s : Bool, ∃ ds' : List Dd, CV.tup [.str (kd s), .str a, .str b, .str c] :: ds.map Dd.cv = ds'.map Dd.cv ∧ (∀ d ∈ ds', d.ok) ∧ ∀ d ∈ ds', InN N d := fun s => by
      refine ⟨⟨s, a, b, c⟩ :: ds, rfl, fun e he => ?_, fun e he => ?_⟩
      · rcases List.mem_cons.mp he with rfl | he
        · exact ⟨ha, hb, hc, hab⟩
        · exact hds e he
      · rcases List.mem_cons.mp he with rfl | he
        · intro k hk
          simp only [Dd.nms, List.mem_cons, List.not_mem_nil, or_false] at hk
          rcases hk with rfl | rfl | rfl <;> assumption
        · exact hn e he
    rcases hk with rfl | rfl
    · exact key true
    · exact key false
def mid45 : CSs := (.cons (.iff (.and (.cmp .ne (.var 5) (.tup .nil)) (.cmp .eq (.call 5 (.cons (.var 2) (.cons (.lit (.int 3)) .nil))) (.lit (.int 1)))) (.cons (.asg (.nm 6) (.bin .add (.tup (.cons (.bin .add (.tup (.cons (.lit (.str [116, 97, 107, 101])) .nil)) (.sl (.ix (.var 5) (.neg (.lit (.int 1)))) (.ex (.lit (.int 1))) .no)) .nil)) (.var 6))) .nil) .nil) .nil)
/-- the other row may begin with the taking of the last deed -/
theorem mid_ok (F : Fns) (W : Nat) (H : Hs6 F) {h : CH} {p : Nat} {xs ys : List Dd} {N : List (List Nat)} (hp : Pool h p) (hx : ∀ d ∈ xs, d.ok) (hy : ∀ d ∈ ys, d.ok) (nx : ∀ d ∈ xs, InN N d) (ny : ∀ d ∈ ys, InN N d) (ly : ys.length ≤ 100) {x0 x1 x3 x4 x7 x8 x9 : Option CV} :
    ∃ (zs : List Dd) (h' : CH), execCs F W mid45 [x0, x1, some (.ref p), x3, x4, some (.tup (xs.map Dd.cv)), some (.tup (ys.map Dd.cv)), x7, x8, x9] h = some (.nx, [x0, x1, some (.ref p), x3, x4, some (.tup (xs.map Dd.cv)), some (.tup (zs.map Dd.cv)), x7, x8, x9], h') ∧ (∀ d ∈ zs, d.ok) ∧ (∀ d ∈ zs, InN N d) ∧ zs.length ≤ ys.length + 1 ∧ Off [p] h h' ∧ Pool h' p := by
  have q1 := eq_rows (h := h) (ds := xs) (es := [])
  simp only [List.map_nil] at q1
  rcases List.eq_nil_or_concat xs with rfl | ⟨pre, d, rfl⟩
  · simp only [decide_true, List.map_nil] at q1
    refine ⟨ys, h, ?_, hy, ny, by omega, .refl _ _, hp⟩
    simp only [mid45, run_eq, List.length_cons, List.length_nil, List.map_cons, List.map_nil, List.cons_append, List.nil_append, List.replicate, List.set_cons_zero, List.set_cons_succ, x_cons, x_nil, seqC_nx, seqC_rt, x_asg, asgK_nm, asgK_sub, retS_some, retH_some, sub1_eq, sub2_eq, x_expr, exK_eq, x_ret, retK_eq, x_retn, x_iff, iffK_t, iffK_f, x_fo, x_pas, x_par, runK_nx, runK_rt, bindE_some, bindL_some, bindO_some, bindI_some, bindB_some, liftB_some, retV_some, asB_bl, bin1_eq, e_bin, cmpK_eq, cmp1_eq, e_cmp, cmpR_t, cmpR_f, cmp2a_eq, e_cmp2, cmpR3_t, cmpR3_f, cmp3a_eq, e_cmp3, e_and, e_or, andK_t, andK_f, orK_t, orK_f, bOut_eq, notK_eq, e_not, negK_int, e_neg, iteK_t, iteK_f, e_ite, tupK2_eq, e_tup, lstK_eq, e_lst, e_dct0, ixK_eq, ix1_eq, e_ix, sl1_eq, sl2_eq, e_sl, e_rev, o_no, o_ex, oK_int, e_call, e_bi, e_me, s_nil, s_cons, consA_eq, consB_eq, e_lit, e_glob, e_var0, e_varS, e_comp, i_range1, i_range2, r2a_eq, i_val, vK_tup, vK_str, t_lit, t_cmp, t_cmp2, t_cmp3, t_call, t_bi, t_var, t_and, t_or, t_not, andT_t, andT_f, orT_t, orT_f, notT_eq, v_add, v_sub, c_lt, c_le, c_gt, c_ge, c_eqI, c_neI, c_eqS, c_neS, c_isN, c_isnotN, c_isB, c_isnotB, x_tup, x_lstV, sl_lstV, sl_tup, b_lenT, b_lenV, decide_true, decide_false, Bool.not_true, Bool.not_false, at0, at1, at2, at3, Nat.reduceAdd, Nat.reduceSub, Nat.reduceMul, Int.reduceAdd, Int.reduceSub, Int.reduceMul, Int.reduceNeg, Int.reduceLT, Int.reduceLE, Int.reduceToNat, Int.cast_ofNat_Int, get_at, get_at0, set_at, set_at0, v_addR, addO_ok, b_lenR, lenO_lst, x_ref, ixO_lst, sl_ref, slO_lst, set_ref, m_appR, appO_lst, b_allR, b_anyR, b_listT, vK_ref, vO_lst, me1_app, recO_lst, when_t, List.append_assoc, List.length_append, List.getElem?_cons_zero, List.getElem?_cons_succ, Nat.zero_add, lim_big, lim_lt, Nat.reduceLeDiff, Nat.reduceLT, c_ne q1]
  · rw [decide_eq_false (by simp)] at q1
    obtain ⟨n, h1, e1, n0, n1, o1, p1⟩ := H.draw h p 3 hp (by decide) (by decide)
    by_cases hn : n = 1
    · subst hn
      have al : ∀ h1 : CH, evalC F (.ix (.var 5) (.neg (.lit (.int 1)))) [x0, x1, some (.ref p), x3, x4, some (.tup ((pre.concat d).map Dd.cv)), some (.tup (ys.map Dd.cv)), x7, x8, x9] h1 = some (d.cv, h1) := fun h1 => by
        have al : atI ((pre.concat d).map Dd.cv) (-1) = some d.cv := by rw [List.concat_eq_append, List.map_append]; exact at_last
        simp only [e_ix, e_var0, e_varS, bindE_some, ix1_eq, e_neg, e_lit, negK_int, ixK_eq, x_tup, al, retV_some]
      have et := take_ev (al h1)
      have va : binV .add (.tup [d.tk.cv]) (.tup (ys.map Dd.cv)) h1 = some (.tup ((d.tk :: ys).map Dd.cv), h1) := by
        rw [v_addT (by rw [List.length_map]; exact lim_big (by simp; omega))]
        rfl
      have hd := hx d (by simp)
      have hdn := nx d (by simp)
      refine ⟨d.tk :: ys, h1, ?_, fun e he => ?_, fun e he => ?_, by simp, o1, p1⟩
      · simp only [mid45, x_cons, x_iff, t_and, t_cmp, e_cmp, e_var0, e_varS, bindE_some, cmp1_eq, e_tup, s_nil, bindL_some, tupK2_eq, cmpK_eq, c_ne q1, liftB_some, asB_bl, bindB_some, andT_t, Bool.not_false, e_call, s_cons, consA_eq, consB_eq, e_lit, e1, c_eqI, decide_true, iffK_t, x_asg]
        rw [e_bin, e_tup, s_cons, et]
        simp only [bindE_some, consA_eq, s_nil, bindL_some, consB_eq, tupK2_eq, bin1_eq, e_var0, e_varS, va, asgK_nm, seqC_nx, x_nil, List.set_cons_succ, List.set_cons_zero]
      · rcases List.mem_cons.mp he with rfl | he
        · exact hd
        · exact hy e he
      · rcases List.mem_cons.mp he with rfl | he
        · exact hdn
        · exact ny e he
    · refine ⟨ys, h1, ?_, hy, ny, by omega, o1, p1⟩
      simp only [mid45, run_eq, List.length_cons, List.length_nil, List.map_cons, List.map_nil, List.cons_append, List.nil_append, List.replicate, List.set_cons_zero, List.set_cons_succ, x_cons, x_nil, seqC_nx, seqC_rt, x_asg, asgK_nm, asgK_sub, retS_some, retH_some, sub1_eq, sub2_eq, x_expr, exK_eq, x_ret, retK_eq, x_retn, x_iff, iffK_t, iffK_f, x_fo, x_pas, x_par, runK_nx, runK_rt, bindE_some, bindL_some, bindO_some, bindI_some, bindB_some, liftB_some, retV_some, asB_bl, bin1_eq, e_bin, cmpK_eq, cmp1_eq, e_cmp, cmpR_t, cmpR_f, cmp2a_eq, e_cmp2, cmpR3_t, cmpR3_f, cmp3a_eq, e_cmp3, e_and, e_or, andK_t, andK_f, orK_t, orK_f, bOut_eq, notK_eq, e_not, negK_int, e_neg, iteK_t, iteK_f, e_ite, tupK2_eq, e_tup, lstK_eq, e_lst, e_dct0, ixK_eq, ix1_eq, e_ix, sl1_eq, sl2_eq, e_sl, e_rev, o_no, o_ex, oK_int, e_call, e_bi, e_me, s_nil, s_cons, consA_eq, consB_eq, e_lit, e_glob, e_var0, e_varS, e_comp, i_range1, i_range2, r2a_eq, i_val, vK_tup, vK_str, t_lit, t_cmp, t_cmp2, t_cmp3, t_call, t_bi, t_var, t_and, t_or, t_not, andT_t, andT_f, orT_t, orT_f, notT_eq, v_add, v_sub, c_lt, c_le, c_gt, c_ge, c_eqI, c_neI, c_eqS, c_neS, c_isN, c_isnotN, c_isB, c_isnotB, x_tup, x_lstV, sl_lstV, sl_tup, b_lenT, b_lenV, decide_true, decide_false, Bool.not_true, Bool.not_false, at0, at1, at2, at3, Nat.reduceAdd, Nat.reduceSub, Nat.reduceMul, Int.reduceAdd, Int.reduceSub, Int.reduceMul, Int.reduceNeg, Int.reduceLT, Int.reduceLE, Int.reduceToNat, Int.cast_ofNat_Int, get_at, get_at0, set_at, set_at0, v_addR, addO_ok, b_lenR, lenO_lst, x_ref, ixO_lst, sl_ref, slO_lst, set_ref, m_appR, appO_lst, b_allR, b_anyR, b_listT, vK_ref, vO_lst, me1_app, recO_lst, when_t, List.append_assoc, List.length_append, List.getElem?_cons_zero, List.getElem?_cons_succ, Nat.zero_add, lim_big, lim_lt, Nat.reduceLeDiff, Nat.reduceLT, c_ne q1, e1, hn, decide_false]
end TH

namespace TH
open PySem
def pre45 : CSs := (.cons (.asg (.nm 2) (.call 4 (.cons (.var 1) .nil))) (.cons (.asg (.nm 3) (.call 7 (.cons (.var 2) (.cons (.bin .add (.lit (.int 2)) (.call 5 (.cons (.var 2) (.cons (.lit (.int 3)) .nil)))) .nil)))) (.cons (.asg (.nm 4) (.call 7 (.cons (.var 2) (.cons (.bin .add (.lit (.int 1)) (.call 5 (.cons (.var 2) (.cons (.lit (.int 3)) .nil)))) .nil)))) (.cons (.asg (.nm 5) (.call 13 (.cons (.var 2) (.cons (.var 3) (.cons (.var 4) (.cons (.lit (.int 14)) .nil)))))) (.cons (.asg (.nm 6) (.call 13 (.cons (.var 2) (.cons (.var 3) (.cons (.var 4) (.cons (.lit (.int 14)) .nil)))))) .nil)))))
def post45 : CSs := (.cons (.asg (.nm 7) (.bi .sorted (.cons (.bi .set (.cons (.bin .add (.var 3) (.var 4)) .nil)) .nil))) (.cons (.asg (.nm 8) callE) (.cons (.iff (.or (.not (.call 44 (.cons (.var 5) (.cons (.var 6) (.cons (.var 8) .nil))))) (.not (.call 44 (.cons (.var 6) (.cons (.var 5) (.cons (.var 8) .nil)))))) (.cons (.ret (.lit (.bl false))) .nil) .nil) .nil)))
def out45 : CSs := (.cons (.asg (.nm 2) (.call 4 (.cons (.var 1) .nil))) (.cons (.asg (.nm 3) (.call 7 (.cons (.var 2) (.cons (.bin .add (.lit (.int 2)) (.call 5 (.cons (.var 2) (.cons (.lit (.int 3)) .nil)))) .nil)))) (.cons (.asg (.nm 4) (.call 7 (.cons (.var 2) (.cons (.bin .add (.lit (.int 1)) (.call 5 (.cons (.var 2) (.cons (.lit (.int 3)) .nil)))) .nil)))) (.cons (.asg (.nm 5) (.call 13 (.cons (.var 2) (.cons (.var 3) (.cons (.var 4) (.cons (.lit (.int 14)) .nil)))))) (.cons (.asg (.nm 6) (.call 13 (.cons (.var 2) (.cons (.var 3) (.cons (.var 4) (.cons (.lit (.int 14)) .nil)))))) (.cons (.iff (.and (.cmp .ne (.var 5) (.tup .nil)) (.cmp .eq (.call 5 (.cons (.var 2) (.cons (.lit (.int 3)) .nil))) (.lit (.int 1)))) (.cons (.asg (.nm 6) (.bin .add (.tup (.cons (.bin .add (.tup (.cons (.lit (.str [116, 97, 107, 101])) .nil)) (.sl (.ix (.var 5) (.neg (.lit (.int 1)))) (.ex (.lit (.int 1))) .no)) .nil)) (.var 6))) .nil) .nil) (.cons (.asg (.nm 7) (.bi .sorted (.cons (.bi .set (.cons (.bin .add (.var 3) (.var 4)) .nil)) .nil))) (.cons (.asg (.nm 8) callE) (.cons (.iff (.or (.not (.call 44 (.cons (.var 5) (.cons (.var 6) (.cons (.var 8) .nil))))) (.not (.call 44 (.cons (.var 6) (.cons (.var 5) (.cons (.var 8) .nil)))))) (.cons (.ret (.lit (.bl false))) .nil) .nil) .nil)))))))))
theorem out45_ok (F : Fns) (W : Nat) (H : Hs6 F) {h : CH} {i : Int} {x0 x2 x3 x4 x5 x6 x7 x8 : Option CV} :
    ∃ s2 h', execCs F W out45 [x0, some (.int i), x2, x3, x4, x5, x6, x7, x8, none] h = some (.nx, s2, h') ∧ (∃ y1 y2 y3 y4 y5 y6 y7 y8, s2 = [x0, y1, y2, y3, y4, y5, y6, y7, y8, none]) ∧ Off [] h h' := by
  obtain ⟨h1, e1, o1, q1⟩ := H.pool h i
  obtain ⟨n2, h2, e2, n20, n21, o2, q2⟩ := H.draw h1 h.length 3 q1 (by decide) (by decide)
  obtain ⟨ks, h3, e3, g3, l3, nd3, nm3, o3, q3⟩ := H.hands h2 h.length (2 + n2) q2 (by omega) (by omega)
  obtain ⟨n4, h4, e4, n40, n41, o4, q4⟩ := H.draw h3 h.length 3 q3 (by decide) (by decide)
  obtain ⟨ws, h5, e5, g5, l5, nd5, nm5, o5, q5⟩ := H.hands h4 h.length (1 + n4) q4 (by omega) (by omega)
  have p1 := q1.lt
  have p2 := o2.len
  have p4 := o4.len
  have p3 := o3.len
  have g3' := o5.get (o4.get g3 (by simp; omega)) (by simp; omega)
  obtain ⟨xs, h6, e6, hx, hl, o6, q6⟩ := H.any h5 h.length h2.length h4.length ks ws q5 g3' g5 (by omega) (by omega) nd3 nm3 nm5 (by omega) (by omega) (by omega) (by omega)
  have g3'' := o6.get g3' (by simp; omega)
  have g5'' := o6.get g5 (by simp; omega)
  obtain ⟨ys, h7, e7, hy, hyl, o7, q7⟩ := H.any h6 h.length h2.length h4.length ks ws q6 g3'' g5'' (by omega) (by omega) nd3 nm3 nm5 (by omega) (by omega) (by omega) (by omega)
  have g3v := o7.get g3'' (by simp; omega)
  have g5v := o7.get g5'' (by simp; omega)
  obtain ⟨ds, rfl, hd, hdn⟩ := dd_listIn hx
  obtain ⟨es, rfl, he, hen⟩ := dd_listIn hy
  rw [List.length_map] at hl hyl
  obtain ⟨fs, h8, e8, hf, hfn, hfl, o8, q8⟩ := mid_ok F W H (x0 := x0) (x1 := some (.int i)) (x3 := some (.ref h2.length)) (x4 := some (.ref h4.length)) (x7 := x7) (x8 := x8) (x9 := none) q7 hd he hdn hen (by omega)
  have g38 := o8.get g3v (by simp; omega)
  have g58 := o8.get g5v (by simp; omega)
  -- the names
  obtain ⟨ts, ets, ndt, memt, lts⟩ := sorted_set (ks ++ ws)
  obtain ⟨us, eus⟩ := set_strs (ks ++ ws)
  have ad : binV .add (.ref h2.length) (.ref h4.length) h8 = some (.ref h8.length, h8 ++ [.lst ((ks ++ ws).map CV.str)]) := by
    rw [v_addR, g38, g58, addO_ok (by rw [List.length_map, List.length_map]; exact lim_big (by omega)), List.map_append]
  have bs := b_setL (get_new (h := h8) (o := CO.lst ((ks ++ ws).map CV.str))) (all_tx _) (by rw [List.length_map, List.length_append]; omega)
  have bo := b_sortedS (get_new (h := h8 ++ [CO.lst ((ks ++ ws).map CV.str)]) (o := CO.set (insAllC [] ((ks ++ ws).map CV.str)))) (by rw [eus]; exact pls_strs 19 us) (by rw [eus]; exact sortable_strs us)
  rw [ets] at bo
  generalize hH : ((h8 ++ [CO.lst ((ks ++ ws).map CV.str)]) ++ [CO.set (insAllC [] ((ks ++ ws).map CV.str))]) = H9 at bs bo
  have o9 : Off [] h8 H9 := by rw [← hH]; exact (Off.app [] _ _).trans (Off.app [] _ _)
  rw [List.length_append] at lts
  obtain ⟨kvs, f, q, h10, e10, g10, lk, hfd, R6, o10⟩ := call_ev F (get_new (h := H9) (o := CO.lst (ts.map CV.str))) ndt (by omega) (x0 := x0) (x1 := some (.int i)) (x2 := some (.ref h.length)) (x3 := some (.ref h2.length)) (x4 := some (.ref h4.length)) (x5 := some (.tup (ds.map Dd.cv))) (x6 := some (.tup (fs.map Dd.cv))) (x8 := x8)
  have inT : ∀ d : Dd, InN (ks ++ ws) d → InN ts d := fun d hd k hk => (memt k).mpr (hd k hk)
  obtain ⟨h11, e11, o11⟩ := H.right h10 q kvs ts f g10 lk hfd R6 ds fs hd hf (fun d hd' => inT d (hdn d hd')) (fun d hd' => inT d (hfn d hd')) (by omega) (by omega)
  obtain ⟨h12, e12, o12⟩ := H.right h11 q kvs ts f (o11.get g10 (by simp)) lk hfd R6 fs ds hf hd (fun d hd' => inT d (hfn d hd')) (fun d hd' => inT d (hdn d hd')) (by omega) (by omega)
  refine ⟨[x0, some (.int i), some (.ref h.length), some (.ref h2.length), some (.ref h4.length), some (.tup (ds.map Dd.cv)), some (.tup (fs.map Dd.cv)), some (.ref H9.length), some (.ref q), none], h12, ?_, ⟨_, _, _, _, _, _, _, _, rfl⟩, ?_⟩
  · rw [show out45 = appS pre45 (appS mid45 post45) from rfl, x_app]
    have pa : execCs F W pre45 [x0, some (.int i), x2, x3, x4, x5, x6, x7, x8, none] h = some (.nx, [x0, some (.int i), some (.ref h.length), some (.ref h2.length), some (.ref h4.length), some (.tup (ds.map Dd.cv)), some (.tup (es.map Dd.cv)), x7, x8, none], h7) := by
      simp only [pre45, run_eq, List.length_cons, List.length_nil, List.map_cons, List.map_nil, List.cons_append, List.nil_append, List.replicate, List.set_cons_zero, List.set_cons_succ, x_cons, x_nil, seqC_nx, seqC_rt, x_asg, asgK_nm, asgK_sub, retS_some, retH_some, sub1_eq, sub2_eq, x_expr, exK_eq, x_ret, retK_eq, x_retn, x_iff, iffK_t, iffK_f, x_fo, x_pas, x_par, runK_nx, runK_rt, bindE_some, bindL_some, bindO_some, bindI_some, bindB_some, liftB_some, retV_some, asB_bl, bin1_eq, e_bin, cmpK_eq, cmp1_eq, e_cmp, cmpR_t, cmpR_f, cmp2a_eq, e_cmp2, cmpR3_t, cmpR3_f, cmp3a_eq, e_cmp3, e_and, e_or, andK_t, andK_f, orK_t, orK_f, bOut_eq, notK_eq, e_not, negK_int, e_neg, iteK_t, iteK_f, e_ite, tupK2_eq, e_tup, lstK_eq, e_lst, e_dct0, ixK_eq, ix1_eq, e_ix, sl1_eq, sl2_eq, e_sl, e_rev, o_no, o_ex, oK_int, e_call, e_bi, e_me, s_nil, s_cons, consA_eq, consB_eq, e_lit, e_glob, e_var0, e_varS, e_comp, i_range1, i_range2, r2a_eq, i_val, vK_tup, vK_str, t_lit, t_cmp, t_cmp2, t_cmp3, t_call, t_bi, t_var, t_and, t_or, t_not, andT_t, andT_f, orT_t, orT_f, notT_eq, v_add, v_sub, c_lt, c_le, c_gt, c_ge, c_eqI, c_neI, c_eqS, c_neS, c_isN, c_isnotN, c_isB, c_isnotB, x_tup, x_lstV, sl_lstV, sl_tup, b_lenT, b_lenV, decide_true, decide_false, Bool.not_true, Bool.not_false, e1, e2, e3, e4, e5, e6, e7]
    rw [pa, seqC_nx, x_app, e8, seqC_nx]
    simp only [post45, run_eq, List.length_cons, List.length_nil, List.map_cons, List.map_nil, List.cons_append, List.nil_append, List.replicate, List.set_cons_zero, List.set_cons_succ, x_cons, x_nil, seqC_nx, seqC_rt, x_asg, asgK_nm, asgK_sub, retS_some, retH_some, sub1_eq, sub2_eq, x_expr, exK_eq, x_ret, retK_eq, x_retn, x_iff, iffK_t, iffK_f, x_fo, x_pas, x_par, runK_nx, runK_rt, bindE_some, bindL_some, bindO_some, bindI_some, bindB_some, liftB_some, retV_some, asB_bl, bin1_eq, e_bin, cmpK_eq, cmp1_eq, e_cmp, cmpR_t, cmpR_f, cmp2a_eq, e_cmp2, cmpR3_t, cmpR3_f, cmp3a_eq, e_cmp3, e_and, e_or, andK_t, andK_f, orK_t, orK_f, bOut_eq, notK_eq, e_not, negK_int, e_neg, iteK_t, iteK_f, e_ite, tupK2_eq, e_tup, lstK_eq, e_lst, e_dct0, ixK_eq, ix1_eq, e_ix, sl1_eq, sl2_eq, e_sl, e_rev, o_no, o_ex, oK_int, e_call, e_bi, e_me, s_nil, s_cons, consA_eq, consB_eq, e_lit, e_glob, e_var0, e_varS, e_comp, i_range1, i_range2, r2a_eq, i_val, vK_tup, vK_str, t_lit, t_cmp, t_cmp2, t_cmp3, t_call, t_bi, t_var, t_and, t_or, t_not, andT_t, andT_f, orT_t, orT_f, notT_eq, v_add, v_sub, c_lt, c_le, c_gt, c_ge, c_eqI, c_neI, c_eqS, c_neS, c_isN, c_isnotN, c_isB, c_isnotB, x_tup, x_lstV, sl_lstV, sl_tup, b_lenT, b_lenV, decide_true, decide_false, Bool.not_true, Bool.not_false, ad, bs, bo, e10, e11, e12]
  · have z1 : Off [h.length] h1 h12 := o2.trans (o3.trans (o4.trans (o5.trans (o6.trans (o7.trans (o8.trans (Off.mono ((o9.trans (Off.app [] H9 [CO.lst (ts.map CV.str)])).trans (o10.trans (o11.trans o12))) (fun x hx => by cases hx))))))))
    exact o1.drop z1 (Nat.le_refl _)
theorem law_k06 (F : Fns) (W : Nat) (H : Hs6 F) (ns : List Int) (h : CH) : ∃ h', runC F W n45.length b45 [.lst (ns.map CV.int)] h = some (.bl true, h') := by
  have ec : cut (ns.map CV.int) none (some 10) = (ns.take 10).map CV.int := by rw [List.map_take]; exact cut_to (ns.map CV.int) 10
  have hl : (ns.take 10).length ≤ 10 := by rw [List.length_take]; omega
  have hlim : 1 + (ns.take 10).length ≤ lim := lim_big (by omega)
  have g : (h ++ [CO.lst [.int 0], .lst ((ns.take 10).map CV.int), .lst (CV.int 0 :: (ns.take 10).map CV.int)])[h.length + 2]? = some (.lst ((0 :: ns.take 10).map CV.int)) := get_at
  obtain ⟨s', h', e, ⟨y1, y2, y3, y4, y5, y6, y7, y8, rfl⟩, o⟩ := foK_inv (F := F) (W := W) (s := [some (.lst (ns.map CV.int)), none, none, none, none, none, none, none, none, none]) (h := h ++ [CO.lst [.int 0], .lst ((ns.take 10).map CV.int), .lst (CV.int 0 :: (ns.take 10).map CV.int)]) (t := .nm 1) (b := out45) (src := .cell (h.length + 2))
    (fun j s' h' => (∃ y1 y2 y3 y4 y5 y6 y7 y8, s' = [some (.lst (ns.map CV.int)), y1, y2, y3, y4, y5, y6, y7, y8, none]) ∧ Off [] (h ++ [CO.lst [.int 0], .lst ((ns.take 10).map CV.int), .lst (CV.int 0 :: (ns.take 10).map CV.int)]) h')
    ⟨⟨_, _, _, _, _, _, _, _, rfl⟩, .refl _ _⟩
    (fun j s' h' hj hi => by
      rw [src_cellL g, List.length_map] at hj
      obtain ⟨⟨y1, y2, y3, y4, y5, y6, y7, y8, rfl⟩, o⟩ := hi
      obtain ⟨s2, h2, e2, hs, o2⟩ := out45_ok F W H (h := h') (i := (0 :: ns.take 10)[j]) (x0 := some (.lst (ns.map CV.int))) (x2 := y2) (x3 := y3) (x4 := y4) (x5 := y5) (x6 := y6) (x7 := y7) (x8 := y8)
      exact ⟨.int (0 :: ns.take 10)[j], s2, h2, by rw [src_cell (o.get g (by simp)), List.getElem?_map, List.getElem?_eq_getElem hj]; rfl, by rw [foB_nm]; exact e2, hs, o.trans o2⟩)
    (fun s' h' hi => by rw [src_cellL g, src_cell (hi.2.get g (by simp)), List.getElem?_eq_none (Nat.le_refl _)])
  refine ⟨h', ?_⟩
  unfold out45 callE eltE at e
  simp only [b45, n45, run_eq, List.length_cons, List.length_nil, List.map_cons, List.map_nil, List.cons_append, List.nil_append, List.replicate, List.set_cons_zero, List.set_cons_succ, x_cons, x_nil, seqC_nx, seqC_rt, x_asg, asgK_nm, asgK_sub, retS_some, retH_some, sub1_eq, sub2_eq, x_expr, exK_eq, x_ret, retK_eq, x_retn, x_iff, iffK_t, iffK_f, x_fo, x_pas, x_par, runK_nx, runK_rt, bindE_some, bindL_some, bindO_some, bindI_some, bindB_some, liftB_some, retV_some, asB_bl, bin1_eq, e_bin, cmpK_eq, cmp1_eq, e_cmp, cmpR_t, cmpR_f, cmp2a_eq, e_cmp2, cmpR3_t, cmpR3_f, cmp3a_eq, e_cmp3, e_and, e_or, andK_t, andK_f, orK_t, orK_f, bOut_eq, notK_eq, e_not, negK_int, e_neg, iteK_t, iteK_f, e_ite, tupK2_eq, e_tup, lstK_eq, e_lst, e_dct0, ixK_eq, ix1_eq, e_ix, sl1_eq, sl2_eq, e_sl, e_rev, o_no, o_ex, oK_int, e_call, e_bi, e_me, s_nil, s_cons, consA_eq, consB_eq, e_lit, e_glob, e_var0, e_varS, e_comp, i_range1, i_range2, r2a_eq, i_val, vK_tup, vK_str, t_lit, t_cmp, t_cmp2, t_cmp3, t_call, t_bi, t_var, t_and, t_or, t_not, andT_t, andT_f, orT_t, orT_f, notT_eq, v_add, v_sub, c_lt, c_le, c_gt, c_ge, c_eqI, c_neI, c_eqS, c_neS, c_isN, c_isnotN, c_isB, c_isnotB, x_tup, x_lstV, sl_lstV, sl_tup, b_lenT, b_lenV, decide_true, decide_false, Bool.not_true, Bool.not_false, at0, at1, at2, at3, Nat.reduceAdd, Nat.reduceSub, Nat.reduceMul, Int.reduceAdd, Int.reduceSub, Int.reduceMul, Int.reduceNeg, Int.reduceLT, Int.reduceLE, Int.reduceToNat, Int.cast_ofNat_Int, get_at, get_at0, set_at, set_at0, v_addR, addO_ok, b_lenR, lenO_lst, x_ref, ixO_lst, sl_ref, slO_lst, set_ref, m_appR, appO_lst, b_allR, b_anyR, b_listT, vK_ref, vO_lst, me1_app, recO_lst, when_t, List.append_assoc, List.length_append, List.getElem?_cons_zero, List.getElem?_cons_succ, Nat.zero_add, lim_big, lim_lt, Nat.reduceLeDiff, Nat.reduceLT, ec, hlim, List.length_map, e]
end TH

set_option maxHeartbeats 8000000
namespace TH.K06
open PySem PySem.Spec PyProof.Rows L2
def topS (i : Nat) : Stmt := PySem.Challenge.pw_talehands_k06_whole_rows_behind_one_anot.main.body.getD i (.Pass ⟨0, 0, 0, 0⟩)
def gv : List (String × CV) := [("SMALL", (.str [97, 98, 99, 100, 101, 102, 103, 104, 105, 106, 107, 108, 109, 110, 111, 112, 113, 114, 115, 116, 117, 118, 119, 120, 121, 122])), ("MOST_LETTERS", (.int 8))]
abbrev s1 : Stmt := topS 3
theorem sc1 : FnScope n1 ["thing"] (defScope s1) := ⟨rfl, rfl, rfl, by decide +kernel, rfl, by decide +kernel, by decide +kernel⟩
theorem ck1 : chkSs ⟨n1, [], gv⟩ (defScope s1) b1 (defBody s1) = true := by decide +kernel
abbrev s2 : Stmt := topS 5
theorem sc2 : FnScope n2 ["thing"] (defScope s2) := ⟨rfl, rfl, rfl, by decide +kernel, rfl, by decide +kernel, by decide +kernel⟩
theorem ck2 : chkSs ⟨n2, [(1, "is_name", 1)], gv⟩ (defScope s2) b2 (defBody s2) = true := by decide +kernel
abbrev s12 : Stmt := topS 6
theorem sc12 : FnScope n12 ["thing"] (defScope s12) := ⟨rfl, rfl, rfl, by decide +kernel, rfl, by decide +kernel, by decide +kernel⟩
theorem ck12 : chkSs ⟨n12, [(2, "is_deed", 1), (1, "is_name", 1)], gv⟩ (defScope s12) b12 (defBody s12) = true := by decide +kernel
abbrev s17 : Stmt := topS 7
theorem sc17 : FnScope n17 ["deed"] (defScope s17) := ⟨rfl, rfl, rfl, by decide +kernel, rfl, by decide +kernel, by decide +kernel⟩
theorem ck17 : chkSs ⟨n17, [(12, "is_row", 1), (2, "is_deed", 1), (1, "is_name", 1)], gv⟩ (defScope s17) b17 (defBody s17) = true := by decide +kernel
abbrev s18 : Stmt := topS 12
theorem sc18 : FnScope n18 ["deed"] (defScope s18) := ⟨rfl, rfl, rfl, by decide +kernel, rfl, by decide +kernel, by decide +kernel⟩
theorem ck18 : chkSs ⟨n18, [(17, "taking_of", 1), (12, "is_row", 1), (2, "is_deed", 1), (1, "is_name", 1)], gv⟩ (defScope s18) b18 (defBody s18) = true := by decide +kernel
abbrev s19 : Stmt := topS 13
theorem sc19 : FnScope n19 ["row", "at"] (defScope s19) := ⟨rfl, rfl, rfl, by decide +kernel, rfl, by decide +kernel, by decide +kernel⟩
theorem ck19 : chkSs ⟨n19, [(18, "show_deed", 1), (17, "taking_of", 1), (12, "is_row", 1), (2, "is_deed", 1), (1, "is_name", 1)], gv⟩ (defScope s19) b19 (defBody s19) = true := by decide +kernel
abbrev s20 : Stmt := topS 14
theorem sc20 : FnScope n20 ["row"] (defScope s20) := ⟨rfl, rfl, rfl, by decide +kernel, rfl, by decide +kernel, by decide +kernel⟩
theorem ck20 : chkSs ⟨n20, [(19, "is_both", 2), (18, "show_deed", 1), (17, "taking_of", 1), (12, "is_row", 1), (2, "is_deed", 1), (1, "is_name", 1)], gv⟩ (defScope s20) b20 (defBody s20) = true := by decide +kernel
abbrev s21 : Stmt := topS 15
theorem sc21 : FnScope n21 ["part"] (defScope s21) := ⟨rfl, rfl, rfl, by decide +kernel, rfl, by decide +kernel, by decide +kernel⟩
theorem ck21 : chkSs ⟨n21, [(20, "show_row", 1), (19, "is_both", 2), (18, "show_deed", 1), (17, "taking_of", 1), (12, "is_row", 1), (2, "is_deed", 1), (1, "is_name", 1)], gv⟩ (defScope s21) b21 (defBody s21) = true := by decide +kernel
abbrev s22 : Stmt := topS 16
theorem sc22 : FnScope n22 ["text"] (defScope s22) := ⟨rfl, rfl, rfl, by decide +kernel, rfl, by decide +kernel, by decide +kernel⟩
theorem ck22 : chkSs ⟨n22, [(21, "deeds_in", 1), (20, "show_row", 1), (19, "is_both", 2), (18, "show_deed", 1), (17, "taking_of", 1), (12, "is_row", 1), (2, "is_deed", 1), (1, "is_name", 1)], gv⟩ (defScope s22) b22 (defBody s22) = true := by decide +kernel
abbrev s23 : Stmt := topS 17
theorem sc23 : FnScope n23 ["text"] (defScope s23) := ⟨rfl, rfl, rfl, by decide +kernel, rfl, by decide +kernel, by decide +kernel⟩
theorem ck23 : chkSs ⟨n23, [(22, "row_in", 1), (21, "deeds_in", 1), (20, "show_row", 1), (19, "is_both", 2), (18, "show_deed", 1), (17, "taking_of", 1), (12, "is_row", 1), (2, "is_deed", 1), (1, "is_name", 1)], gv⟩ (defScope s23) b23 (defBody s23) = true := by decide +kernel
abbrev s4 : Stmt := topS 19
theorem sc4 : FnScope n4 ["_law_cell"] (defScope s4) := ⟨rfl, rfl, rfl, by decide +kernel, rfl, by decide +kernel, by decide +kernel⟩
theorem ck4 : chkSs ⟨n4, [(23, "read_row", 1), (22, "row_in", 1), (21, "deeds_in", 1), (20, "show_row", 1), (19, "is_both", 2), (18, "show_deed", 1), (17, "taking_of", 1), (12, "is_row", 1), (2, "is_deed", 1), (1, "is_name", 1)], gv⟩ (defScope s4) b4 (defBody s4) = true := by decide +kernel
abbrev s5 : Stmt := topS 20
theorem sc5 : FnScope n5 ["_law_pool_here", "_law_top"] (defScope s5) := ⟨rfl, rfl, rfl, by decide +kernel, rfl, by decide +kernel, by decide +kernel⟩
theorem ck5 : chkSs ⟨n5, [(4, "_law_pool", 1), (23, "read_row", 1), (22, "row_in", 1), (21, "deeds_in", 1), (20, "show_row", 1), (19, "is_both", 2), (18, "show_deed", 1), (17, "taking_of", 1), (12, "is_row", 1), (2, "is_deed", 1), (1, "is_name", 1)], gv⟩ (defScope s5) b5 (defBody s5) = true := by decide +kernel
abbrev s6 : Stmt := topS 21
theorem sc6 : FnScope n6 ["_law_pool_here", "_law_known"] (defScope s6) := ⟨rfl, rfl, rfl, by decide +kernel, rfl, by decide +kernel, by decide +kernel⟩
theorem ck6 : chkSs ⟨n6, [(5, "_law_draw", 2), (4, "_law_pool", 1), (23, "read_row", 1), (22, "row_in", 1), (21, "deeds_in", 1), (20, "show_row", 1), (19, "is_both", 2), (18, "show_deed", 1), (17, "taking_of", 1), (12, "is_row", 1), (2, "is_deed", 1), (1, "is_name", 1)], gv⟩ (defScope s6) b6 (defBody s6) = true := by decide +kernel
abbrev s7 : Stmt := topS 22
theorem sc7 : FnScope n7 ["_law_pool_here", "_law_amount"] (defScope s7) := ⟨rfl, rfl, rfl, by decide +kernel, rfl, by decide +kernel, by decide +kernel⟩
theorem ck7 : chkSs ⟨n7, [(6, "_law_name", 2), (5, "_law_draw", 2), (4, "_law_pool", 1), (23, "read_row", 1), (22, "row_in", 1), (21, "deeds_in", 1), (20, "show_row", 1), (19, "is_both", 2), (18, "show_deed", 1), (17, "taking_of", 1), (12, "is_row", 1), (2, "is_deed", 1), (1, "is_name", 1)], gv⟩ (defScope s7) b7 (defBody s7) = true := by decide +kernel
abbrev s13 : Stmt := topS 23
theorem sc13 : FnScope n13 ["_law_pool_here", "_law_hands_here", "_law_words", "_law_most"] (defScope s13) := ⟨rfl, rfl, rfl, by decide +kernel, rfl, by decide +kernel, by decide +kernel⟩
theorem ck13 : chkSs ⟨n13, [(7, "_law_hands", 2), (6, "_law_name", 2), (5, "_law_draw", 2), (4, "_law_pool", 1), (23, "read_row", 1), (22, "row_in", 1), (21, "deeds_in", 1), (20, "show_row", 1), (19, "is_both", 2), (18, "show_deed", 1), (17, "taking_of", 1), (12, "is_row", 1), (2, "is_deed", 1), (1, "is_name", 1)], gv⟩ (defScope s13) b13 (defBody s13) = true := by decide +kernel
abbrev s41 : Stmt := topS 24
theorem sc41 : FnScope n41 ["_law_row"] (defScope s41) := ⟨rfl, rfl, rfl, by decide +kernel, rfl, by decide +kernel, by decide +kernel⟩
theorem ck41 : chkSs ⟨n41, [(13, "_law_any_row", 4), (7, "_law_hands", 2), (6, "_law_name", 2), (5, "_law_draw", 2), (4, "_law_pool", 1), (23, "read_row", 1), (22, "row_in", 1), (21, "deeds_in", 1), (20, "show_row", 1), (19, "is_both", 2), (18, "show_deed", 1), (17, "taking_of", 1), (12, "is_row", 1), (2, "is_deed", 1), (1, "is_name", 1)], gv⟩ (defScope s41) b41 (defBody s41) = true := by decide +kernel
abbrev s42 : Stmt := topS 25
theorem sc42 : FnScope n42 ["_law_row", "_law_called_here"] (defScope s42) := ⟨rfl, rfl, rfl, by decide +kernel, rfl, by decide +kernel, by decide +kernel⟩
theorem ck42 : chkSs ⟨n42, [(41, "_law_parts", 1), (13, "_law_any_row", 4), (7, "_law_hands", 2), (6, "_law_name", 2), (5, "_law_draw", 2), (4, "_law_pool", 1), (23, "read_row", 1), (22, "row_in", 1), (21, "deeds_in", 1), (20, "show_row", 1), (19, "is_both", 2), (18, "show_deed", 1), (17, "taking_of", 1), (12, "is_row", 1), (2, "is_deed", 1), (1, "is_name", 1)], gv⟩ (defScope s42) b42 (defBody s42) = true := by decide +kernel
abbrev s43 : Stmt := topS 26
theorem sc43 : FnScope n43 ["_law_text"] (defScope s43) := ⟨rfl, rfl, rfl, by decide +kernel, rfl, by decide +kernel, by decide +kernel⟩
theorem ck43 : chkSs ⟨n43, [(42, "_law_called", 2), (41, "_law_parts", 1), (13, "_law_any_row", 4), (7, "_law_hands", 2), (6, "_law_name", 2), (5, "_law_draw", 2), (4, "_law_pool", 1), (23, "read_row", 1), (22, "row_in", 1), (21, "deeds_in", 1), (20, "show_row", 1), (19, "is_both", 2), (18, "show_deed", 1), (17, "taking_of", 1), (12, "is_row", 1), (2, "is_deed", 1), (1, "is_name", 1)], gv⟩ (defScope s43) b43 (defBody s43) = true := by decide +kernel
abbrev s44 : Stmt := topS 27
theorem sc44 : FnScope n44 ["_law_one", "_law_other", "_law_called_here"] (defScope s44) := ⟨rfl, rfl, rfl, by decide +kernel, rfl, by decide +kernel, by decide +kernel⟩
theorem ck44 : chkSs ⟨n44, [(43, "_law_signs", 1), (42, "_law_called", 2), (41, "_law_parts", 1), (13, "_law_any_row", 4), (7, "_law_hands", 2), (6, "_law_name", 2), (5, "_law_draw", 2), (4, "_law_pool", 1), (23, "read_row", 1), (22, "row_in", 1), (21, "deeds_in", 1), (20, "show_row", 1), (19, "is_both", 2), (18, "show_deed", 1), (17, "taking_of", 1), (12, "is_row", 1), (2, "is_deed", 1), (1, "is_name", 1)], gv⟩ (defScope s44) b44 (defBody s44) = true := by decide +kernel
abbrev s45 : Stmt := topS 28
theorem sc45 : FnScope n45 ["_law_script"] (defScope s45) := ⟨rfl, rfl, rfl, by decide +kernel, rfl, by decide +kernel, by decide +kernel⟩
theorem ck45 : chkSs ⟨n45, [(44, "_law_right", 3), (43, "_law_signs", 1), (42, "_law_called", 2), (41, "_law_parts", 1), (13, "_law_any_row", 4), (7, "_law_hands", 2), (6, "_law_name", 2), (5, "_law_draw", 2), (4, "_law_pool", 1), (23, "read_row", 1), (22, "row_in", 1), (21, "deeds_in", 1), (20, "show_row", 1), (19, "is_both", 2), (18, "show_deed", 1), (17, "taking_of", 1), (12, "is_row", 1), (2, "is_deed", 1), (1, "is_name", 1)], gv⟩ (defScope s45) b45 (defBody s45) = true := by decide +kernel
def F2 : Fns := fup F0 1 (runC F0 1000000 n1.length b1)
def F3 : Fns := fup F2 2 (runC F2 1000000 n2.length b2)
def F13 : Fns := fup F3 12 (runC F3 1000000 n12.length b12)
def F18 : Fns := fup F13 17 (runC F13 1000000 n17.length b17)
def F19 : Fns := fup F18 18 (runC F18 1000000 n18.length b18)
def F20 : Fns := fup F19 19 (runC F19 1000000 n19.length b19)
def F21 : Fns := fup F20 20 (runC F20 1000000 n20.length b20)
def F22 : Fns := fup F21 21 (runC F21 1000000 n21.length b21)
def F23 : Fns := fup F22 22 (runC F22 1000000 n22.length b22)
def F24 : Fns := fup F23 23 (runC F23 1000000 n23.length b23)
def F5 : Fns := fup F24 4 (runC F24 1000000 n4.length b4)
def F6 : Fns := fup F5 5 (runC F5 1000000 n5.length b5)
def F7 : Fns := fup F6 6 (runC F6 1000000 n6.length b6)
def F8 : Fns := fup F7 7 (runC F7 1000000 n7.length b7)
def F14 : Fns := fup F8 13 (runC F8 1000000 n13.length b13)
def F42 : Fns := fup F14 41 (runC F14 1000000 n41.length b41)
def F43 : Fns := fup F42 42 (runC F42 1000000 n42.length b42)
def F44 : Fns := fup F43 43 (runC F43 1000000 n43.length b43)
def F45 : Fns := fup F44 44 (runC F44 1000000 n44.length b44)

theorem fup_eq {F : Fns} {i : Nat} {m : List CV → CH → Out} : fup F i m i = m := by unfold fup; rw [if_pos rfl]
theorem fup_ne {F : Fns} {i j : Nat} {m : List CV → CH → Out} (h : j ≠ i) : fup F i m j = F j := by unfold fup; rw [if_neg h]
theorem g2_1 : F2 1 = runC F0 1000000 n1.length b1 := fup_eq
theorem g12_2 : F3 2 = runC F2 1000000 n2.length b2 := fup_eq
theorem g19_17 : F19 17 = runC F13 1000000 n17.length b17 := (fup_ne (by decide)).trans (fup_eq)
theorem g20_18 : F20 18 = runC F18 1000000 n18.length b18 := (fup_ne (by decide)).trans (fup_eq)
theorem g20_19 : F20 19 = runC F19 1000000 n19.length b19 := fup_eq
theorem g22_12 : F22 12 = runC F3 1000000 n12.length b12 := (fup_ne (by decide)).trans ((fup_ne (by decide)).trans ((fup_ne (by decide)).trans ((fup_ne (by decide)).trans ((fup_ne (by decide)).trans (fup_eq)))))
theorem g22_21 : F22 21 = runC F21 1000000 n21.length b21 := fup_eq
theorem g23_22 : F23 22 = runC F22 1000000 n22.length b22 := fup_eq
theorem g6_5 : F6 5 = runC F5 1000000 n5.length b5 := fup_eq
theorem g7_6 : F7 6 = runC F6 1000000 n6.length b6 := fup_eq
theorem g13_5 : F8 5 = runC F5 1000000 n5.length b5 := (fup_ne (by decide)).trans ((fup_ne (by decide)).trans (fup_eq))
theorem g41_20 : F14 20 = runC F20 1000000 n20.length b20 := (fup_ne (by decide)).trans ((fup_ne (by decide)).trans ((fup_ne (by decide)).trans ((fup_ne (by decide)).trans ((fup_ne (by decide)).trans ((fup_ne (by decide)).trans ((fup_ne (by decide)).trans ((fup_ne (by decide)).trans (fup_eq))))))))
theorem g44_20 : F44 20 = runC F20 1000000 n20.length b20 := (fup_ne (by decide)).trans ((fup_ne (by decide)).trans ((fup_ne (by decide)).trans ((fup_ne (by decide)).trans ((fup_ne (by decide)).trans ((fup_ne (by decide)).trans ((fup_ne (by decide)).trans ((fup_ne (by decide)).trans ((fup_ne (by decide)).trans ((fup_ne (by decide)).trans ((fup_ne (by decide)).trans (fup_eq)))))))))))
theorem g44_23 : F44 23 = runC F23 1000000 n23.length b23 := (fup_ne (by decide)).trans ((fup_ne (by decide)).trans ((fup_ne (by decide)).trans ((fup_ne (by decide)).trans ((fup_ne (by decide)).trans ((fup_ne (by decide)).trans ((fup_ne (by decide)).trans ((fup_ne (by decide)).trans (fup_eq))))))))
theorem g44_41 : F44 41 = runC F14 1000000 n41.length b41 := (fup_ne (by decide)).trans ((fup_ne (by decide)).trans (fup_eq))
theorem g44_42 : F44 42 = runC F42 1000000 n42.length b42 := (fup_ne (by decide)).trans (fup_eq)
theorem g44_43 : F44 43 = runC F43 1000000 n43.length b43 := fup_eq
theorem g45_4 : F45 4 = runC F24 1000000 n4.length b4 := (fup_ne (by decide)).trans ((fup_ne (by decide)).trans ((fup_ne (by decide)).trans ((fup_ne (by decide)).trans ((fup_ne (by decide)).trans ((fup_ne (by decide)).trans ((fup_ne (by decide)).trans ((fup_ne (by decide)).trans (fup_eq))))))))
theorem g45_5 : F45 5 = runC F5 1000000 n5.length b5 := (fup_ne (by decide)).trans ((fup_ne (by decide)).trans ((fup_ne (by decide)).trans ((fup_ne (by decide)).trans ((fup_ne (by decide)).trans ((fup_ne (by decide)).trans ((fup_ne (by decide)).trans (fup_eq)))))))
theorem g45_7 : F45 7 = runC F7 1000000 n7.length b7 := (fup_ne (by decide)).trans ((fup_ne (by decide)).trans ((fup_ne (by decide)).trans ((fup_ne (by decide)).trans ((fup_ne (by decide)).trans (fup_eq)))))
theorem g45_13 : F45 13 = runC F8 1000000 n13.length b13 := (fup_ne (by decide)).trans ((fup_ne (by decide)).trans ((fup_ne (by decide)).trans ((fup_ne (by decide)).trans (fup_eq))))
theorem g45_44 : F45 44 = runC F44 1000000 n44.length b44 := fup_eq

theorem q1 (h : CH) (v : CV) (t : Part h v) : ∃ h', runC F0 1000000 n1.length b1 [v] h = some (.bl (nmV v), h') ∧ Off [] h h' := run_isname F0 1000000 t.1 t.2
theorem q2 (h : CH) (v : CV) (t : TD h v) : ∃ h', runC F2 1000000 n2.length b2 [v] h = some (.bl (deedV v), h') ∧ Off [] h h' := run_isdeed F2 1000000 (fun h v t => by rw [g2_1]; exact q1 h v t) t.1.1 t.2
theorem q5 : ∀ (h : CH) (p : Nat) (t : Int), Pool h p → 0 < t → t < 1073741824 → ∃ n h', runC F5 1000000 n5.length b5 [.ref p, .int t] h = some (.int n, h') ∧ 0 ≤ n ∧ n < t ∧ Off [p] h h' ∧ Pool h' p := fun h p t q h0 h1 => run_draw F5 1000000 q h0 h1
theorem q6 (h : CH) (p r : Nat) (ks : List (List Nat)) (q : Pool h p) (hr : h[r]? = some (.lst (ks.map .str))) (hp : r ≠ p) (hl : ks.length < 26) (hk : ∀ k ∈ ks, Nm k) : ∃ k h', runC F6 1000000 n6.length b6 [.ref p, .ref r] h = some (.str k, h') ∧ Nm k ∧ k ∉ ks ∧ Off [p] h h' ∧ Pool h' p := run_name F6 1000000 (fun h p t q h0 h1 => by rw [g6_5]; exact q5 h p t q h0 h1) q hr hp hl hk
theorem q7 (h : CH) (p : Nat) (n : Int) (q : Pool h p) (h0 : 0 ≤ n) (h1 : n < 26) : ∃ (ks : List (List Nat)) (h' : CH), runC F7 1000000 n7.length b7 [.ref p, .int n] h = some (.ref h.length, h') ∧ h'[h.length]? = some (.lst (ks.map CV.str)) ∧ ks.length = n.toNat ∧ ks.Nodup ∧ (∀ k ∈ ks, Nm k) ∧ Off [p] h h' ∧ Pool h' p := run_hands F7 1000000 (fun h p r ks a b c d e => by rw [g7_6]; exact q6 h p r ks a b c d e) q h0 h1
theorem q20 : ∀ (h : CH) (ds : List Dd), (∀ d ∈ ds, d.ok) → ds.length ≤ 1000 → ∃ h', runC F20 1000000 n20.length b20 [.tup (ds.map Dd.cv)] h = some (.str (textOf ds), h') ∧ Off [] h h' := fun h ds a b => run_show F20 1000000 (by decide) (fun d h hd => by rw [g20_18]; exact run_showdeed F18 1000000 hd) (fun ds i h hi => by rw [g20_19]; exact run_both F19 1000000 (fun d h => by rw [g19_17]; exact run_taking F13 1000000) hi) a b
theorem q22 (h : CH) (qs : List Pq) (a : ∀ q ∈ qs, Pq.ok q) (b : qs ≠ []) (c : qs.length ≤ 1000) : ∃ h', runC F22 1000000 n22.length b22 [.str (joinS [32] (qs.map Pq.text))] h = some (.tup ((qs.map Pq.rows).flatten.map Dd.cv), h') ∧ Off [] h h' := run_rowin F22 1000000 (fun h v t u => by rw [g22_12]; exact run_isrow F3 1000000 (fun h v t => by rw [g12_2]; exact q2 h v t) t u) (fun q h hq => by rw [g22_21]; exact rd_part F21 1000000 hq) a b c
theorem q23 (h : CH) (ds : List Dd) (hd : ∀ d ∈ ds, d.ok) (hl : ds.length ≤ 1000) : ∃ h', runC F23 1000000 n23.length b23 [.str (textOf ds)] h = some (.tup (ds.map Dd.cv), h') ∧ Off [] h h' := by
  by_cases hn : ds = []
  · subst hn
    exact ⟨h, run_read F23 1000000 (by rw [g23_22]; exact run_rowin0 F22 1000000), .refl _ _⟩
  · obtain ⟨h', e, o⟩ := q22 h (partsQ ds) (partsQ_ok ds hd) (fun z => hn (by
      have := partsQ_rows ds
      rw [z] at this
      exact this.symm)) (by have := partsQ_len ds; omega)
    rw [partsQ_text, partsQ_rows] at e
    refine ⟨h', ?_, o⟩
    unfold textOf
    rw [if_neg hn]
    exact run_read F23 1000000 (by rw [g23_22]; exact e)
theorem q41 (h : CH) (ds : List Dd) (hd : ∀ d ∈ ds, d.ok) (hl : ds.length ≤ 1000) : ∃ r h', runC F14 1000000 n41.length b41 [.tup (ds.map Dd.cv)] h = some (.ref r, h') ∧ h'[r]? = some (.lst ((parts ds).map .str)) ∧ Off [] h h' ∧ h.length ≤ r := run_parts F14 1000000 (fun h ds a b => by rw [g41_20]; exact q20 h ds a b) hd hl
theorem rt : Rt F44 where
  parts := fun h ds a b => by rw [g44_41]; exact q41 h ds a b
  called := fun h r kvs ns f a b c ds d e => by rw [g44_42]; exact run_called F42 1000000 a b c d e
  signs := fun h t a => by rw [g44_43]; exact run_signs F43 1000000 a
  show' := fun h ds a b => by rw [g44_20]; exact q20 h ds a b
  read := fun h ds a b => by rw [g44_23]; exact q23 h ds a b
theorem gs : Hs6 F45 where
  pool := fun h i => by rw [g45_4]; exact run_pool F24 1000000 i h
  draw := fun h p t q h0 h1 => by rw [g45_5]; exact q5 h p t q h0 h1
  hands := fun h p n q h0 h1 => by rw [g45_7]; exact q7 h p n q h0 h1
  any := fun h p r w ks ws a b c d e f g i j k l m => by rw [g45_13]; exact run_anyrowM F8 1000000 (fun h p t q h0 h1 => by rw [g13_5]; exact q5 h p t q h0 h1) 14 (by decide) a b c d e f g i j k l m
  right := fun h r kvs ns f a b c d xs ys e g i j k l => by rw [g45_44]; exact run_right6 F44 1000000 rt a b c d e g i j k l
theorem law_here (ns : List Int) : ∃ h', runC F45 1000000 n45.length b45 [.lst (ns.map CV.int)] [] = some (.bl true, h') := law_k06 F45 1000000 gs ns []

theorem law_true (ns : List Int) (h : ns.length ≤ 63) : ∃ h', runC F45 1000000 n45.length b45 [.lst (ns.map CV.int)] [] = some (.bl true, h') := law_here ns
section
variable {w : World} {K : PySem.W.Frag} {h : Heap} {mg : Str → Option Value} {fa : Addr}
/-- what the top has written -/
theorem all_mk {f1 f2 f12 f17 f18 f19 f20 f21 f22 f23 f4 f5 f6 f7 f13 f41 f42 f43 f44 f45 : Addr} (X : K.In h) (G : h.Ns mainGlobals mg) (hfa : mg "law" = some (.ref fa))
    {od1 an1 od2 an2 od12 an12 od17 an17 od18 an18 od19 an19 od20 an20 od21 an21 od22 an22 od23 an23 od4 an4 od5 an5 od6 an6 od7 an7 od13 an13 od41 an41 od42 an42 od43 an43 od44 an44 od45 an45 : Option Addr} {sl1 sl2 sl12 sl17 sl18 sl19 sl20 sl21 sl22 sl23 sl4 sl5 sl6 sl7 sl13 sl41 sl42 sl43 sl44 sl45 : Array (Option Value)} {oc1 kV1 dc1 pm1 cd1 ct1 oc2 kV2 dc2 pm2 cd2 ct2 oc12 kV12 dc12 pm12 cd12 ct12 oc17 kV17 dc17 pm17 cd17 ct17 oc18 kV18 dc18 pm18 cd18 ct18 oc19 kV19 dc19 pm19 cd19 ct19 oc20 kV20 dc20 pm20 cd20 ct20 oc21 kV21 dc21 pm21 cd21 ct21 oc22 kV22 dc22 pm22 cd22 ct22 oc23 kV23 dc23 pm23 cd23 ct23 oc4 kV4 dc4 pm4 cd4 ct4 oc5 kV5 dc5 pm5 cd5 ct5 oc6 kV6 dc6 pm6 cd6 ct6 oc7 kV7 dc7 pm7 cd7 ct7 oc13 kV13 dc13 pm13 cd13 ct13 oc41 kV41 dc41 pm41 cd41 ct41 oc42 kV42 dc42 pm42 cd42 ct42 oc43 kV43 dc43 pm43 cd43 ct43 oc44 kV44 dc44 pm44 cd44 ct44 oc45 kV45 dc45 pm45 cd45 ct45 : Value} {t_SMALL t_MOST_LETTERS : Tok}
    (a1 : PySem.W.nsIn K mainGlobals "is_name" = some (some (.ref f1))) (l1 : K.lookup f1 = some ⟨oc1, od1, .func (PySem.W.fnOf "is_name" "is_name" (defArgs s1) (defBody s1) (defScope s1) .none kV1 dc1 pm1 an1 cd1 ct1), sl1⟩) (c1 : PySem.W.codeIn K cd1 "is_name" = true) (k1 : PySem.W.keepIn K (.ref f1) = true)
    (a2 : PySem.W.nsIn K mainGlobals "is_deed" = some (some (.ref f2))) (l2 : K.lookup f2 = some ⟨oc2, od2, .func (PySem.W.fnOf "is_deed" "is_deed" (defArgs s2) (defBody s2) (defScope s2) .none kV2 dc2 pm2 an2 cd2 ct2), sl2⟩) (c2 : PySem.W.codeIn K cd2 "is_deed" = true) (k2 : PySem.W.keepIn K (.ref f2) = true)
    (a12 : PySem.W.nsIn K mainGlobals "is_row" = some (some (.ref f12))) (l12 : K.lookup f12 = some ⟨oc12, od12, .func (PySem.W.fnOf "is_row" "is_row" (defArgs s12) (defBody s12) (defScope s12) .none kV12 dc12 pm12 an12 cd12 ct12), sl12⟩) (c12 : PySem.W.codeIn K cd12 "is_row" = true) (k12 : PySem.W.keepIn K (.ref f12) = true)
    (a17 : PySem.W.nsIn K mainGlobals "taking_of" = some (some (.ref f17))) (l17 : K.lookup f17 = some ⟨oc17, od17, .func (PySem.W.fnOf "taking_of" "taking_of" (defArgs s17) (defBody s17) (defScope s17) .none kV17 dc17 pm17 an17 cd17 ct17), sl17⟩) (c17 : PySem.W.codeIn K cd17 "taking_of" = true) (k17 : PySem.W.keepIn K (.ref f17) = true)
    (a18 : PySem.W.nsIn K mainGlobals "show_deed" = some (some (.ref f18))) (l18 : K.lookup f18 = some ⟨oc18, od18, .func (PySem.W.fnOf "show_deed" "show_deed" (defArgs s18) (defBody s18) (defScope s18) .none kV18 dc18 pm18 an18 cd18 ct18), sl18⟩) (c18 : PySem.W.codeIn K cd18 "show_deed" = true) (k18 : PySem.W.keepIn K (.ref f18) = true)
    (a19 : PySem.W.nsIn K mainGlobals "is_both" = some (some (.ref f19))) (l19 : K.lookup f19 = some ⟨oc19, od19, .func (PySem.W.fnOf "is_both" "is_both" (defArgs s19) (defBody s19) (defScope s19) .none kV19 dc19 pm19 an19 cd19 ct19), sl19⟩) (c19 : PySem.W.codeIn K cd19 "is_both" = true) (k19 : PySem.W.keepIn K (.ref f19) = true)
    (a20 : PySem.W.nsIn K mainGlobals "show_row" = some (some (.ref f20))) (l20 : K.lookup f20 = some ⟨oc20, od20, .func (PySem.W.fnOf "show_row" "show_row" (defArgs s20) (defBody s20) (defScope s20) .none kV20 dc20 pm20 an20 cd20 ct20), sl20⟩) (c20 : PySem.W.codeIn K cd20 "show_row" = true) (k20 : PySem.W.keepIn K (.ref f20) = true)
    (a21 : PySem.W.nsIn K mainGlobals "deeds_in" = some (some (.ref f21))) (l21 : K.lookup f21 = some ⟨oc21, od21, .func (PySem.W.fnOf "deeds_in" "deeds_in" (defArgs s21) (defBody s21) (defScope s21) .none kV21 dc21 pm21 an21 cd21 ct21), sl21⟩) (c21 : PySem.W.codeIn K cd21 "deeds_in" = true) (k21 : PySem.W.keepIn K (.ref f21) = true)
    (a22 : PySem.W.nsIn K mainGlobals "row_in" = some (some (.ref f22))) (l22 : K.lookup f22 = some ⟨oc22, od22, .func (PySem.W.fnOf "row_in" "row_in" (defArgs s22) (defBody s22) (defScope s22) .none kV22 dc22 pm22 an22 cd22 ct22), sl22⟩) (c22 : PySem.W.codeIn K cd22 "row_in" = true) (k22 : PySem.W.keepIn K (.ref f22) = true)
    (a23 : PySem.W.nsIn K mainGlobals "read_row" = some (some (.ref f23))) (l23 : K.lookup f23 = some ⟨oc23, od23, .func (PySem.W.fnOf "read_row" "read_row" (defArgs s23) (defBody s23) (defScope s23) .none kV23 dc23 pm23 an23 cd23 ct23), sl23⟩) (c23 : PySem.W.codeIn K cd23 "read_row" = true) (k23 : PySem.W.keepIn K (.ref f23) = true)
    (a4 : PySem.W.nsIn K mainGlobals "_law_pool" = some (some (.ref f4))) (l4 : K.lookup f4 = some ⟨oc4, od4, .func (PySem.W.fnOf "_law_pool" "_law_pool" (defArgs s4) (defBody s4) (defScope s4) .none kV4 dc4 pm4 an4 cd4 ct4), sl4⟩) (c4 : PySem.W.codeIn K cd4 "_law_pool" = true) (k4 : PySem.W.keepIn K (.ref f4) = true)
    (a5 : PySem.W.nsIn K mainGlobals "_law_draw" = some (some (.ref f5))) (l5 : K.lookup f5 = some ⟨oc5, od5, .func (PySem.W.fnOf "_law_draw" "_law_draw" (defArgs s5) (defBody s5) (defScope s5) .none kV5 dc5 pm5 an5 cd5 ct5), sl5⟩) (c5 : PySem.W.codeIn K cd5 "_law_draw" = true) (k5 : PySem.W.keepIn K (.ref f5) = true)
    (a6 : PySem.W.nsIn K mainGlobals "_law_name" = some (some (.ref f6))) (l6 : K.lookup f6 = some ⟨oc6, od6, .func (PySem.W.fnOf "_law_name" "_law_name" (defArgs s6) (defBody s6) (defScope s6) .none kV6 dc6 pm6 an6 cd6 ct6), sl6⟩) (c6 : PySem.W.codeIn K cd6 "_law_name" = true) (k6 : PySem.W.keepIn K (.ref f6) = true)
    (a7 : PySem.W.nsIn K mainGlobals "_law_hands" = some (some (.ref f7))) (l7 : K.lookup f7 = some ⟨oc7, od7, .func (PySem.W.fnOf "_law_hands" "_law_hands" (defArgs s7) (defBody s7) (defScope s7) .none kV7 dc7 pm7 an7 cd7 ct7), sl7⟩) (c7 : PySem.W.codeIn K cd7 "_law_hands" = true) (k7 : PySem.W.keepIn K (.ref f7) = true)
    (a13 : PySem.W.nsIn K mainGlobals "_law_any_row" = some (some (.ref f13))) (l13 : K.lookup f13 = some ⟨oc13, od13, .func (PySem.W.fnOf "_law_any_row" "_law_any_row" (defArgs s13) (defBody s13) (defScope s13) .none kV13 dc13 pm13 an13 cd13 ct13), sl13⟩) (c13 : PySem.W.codeIn K cd13 "_law_any_row" = true) (k13 : PySem.W.keepIn K (.ref f13) = true)
    (a41 : PySem.W.nsIn K mainGlobals "_law_parts" = some (some (.ref f41))) (l41 : K.lookup f41 = some ⟨oc41, od41, .func (PySem.W.fnOf "_law_parts" "_law_parts" (defArgs s41) (defBody s41) (defScope s41) .none kV41 dc41 pm41 an41 cd41 ct41), sl41⟩) (c41 : PySem.W.codeIn K cd41 "_law_parts" = true) (k41 : PySem.W.keepIn K (.ref f41) = true)
    (a42 : PySem.W.nsIn K mainGlobals "_law_called" = some (some (.ref f42))) (l42 : K.lookup f42 = some ⟨oc42, od42, .func (PySem.W.fnOf "_law_called" "_law_called" (defArgs s42) (defBody s42) (defScope s42) .none kV42 dc42 pm42 an42 cd42 ct42), sl42⟩) (c42 : PySem.W.codeIn K cd42 "_law_called" = true) (k42 : PySem.W.keepIn K (.ref f42) = true)
    (a43 : PySem.W.nsIn K mainGlobals "_law_signs" = some (some (.ref f43))) (l43 : K.lookup f43 = some ⟨oc43, od43, .func (PySem.W.fnOf "_law_signs" "_law_signs" (defArgs s43) (defBody s43) (defScope s43) .none kV43 dc43 pm43 an43 cd43 ct43), sl43⟩) (c43 : PySem.W.codeIn K cd43 "_law_signs" = true) (k43 : PySem.W.keepIn K (.ref f43) = true)
    (a44 : PySem.W.nsIn K mainGlobals "_law_right" = some (some (.ref f44))) (l44 : K.lookup f44 = some ⟨oc44, od44, .func (PySem.W.fnOf "_law_right" "_law_right" (defArgs s44) (defBody s44) (defScope s44) .none kV44 dc44 pm44 an44 cd44 ct44), sl44⟩) (c44 : PySem.W.codeIn K cd44 "_law_right" = true) (k44 : PySem.W.keepIn K (.ref f44) = true)
    (a45 : PySem.W.nsIn K mainGlobals "law" = some (some (.ref f45))) (l45 : K.lookup f45 = some ⟨oc45, od45, .func (PySem.W.fnOf "law" "law" (defArgs s45) (defBody s45) (defScope s45) .none kV45 dc45 pm45 an45 cd45 ct45), sl45⟩) (c45 : PySem.W.codeIn K cd45 "law" = true) (k45 : PySem.W.keepIn K (.ref f45) = true)
    (g_SMALL : PySem.W.nsIn K mainGlobals "SMALL" = some (some (.str (toS [97, 98, 99, 100, 101, 102, 103, 104, 105, 106, 107, 108, 109, 110, 111, 112, 113, 114, 115, 116, 117, 118, 119, 120, 121, 122]) t_SMALL)))
    (g_MOST_LETTERS : PySem.W.nsIn K mainGlobals "MOST_LETTERS" = some (some (.int 8 t_MOST_LETTERS)))
    (z_len : PySem.W.nsIn K mainGlobals "len" = some none)
    (z_all : PySem.W.nsIn K mainGlobals "all" = some none)
    (z_any : PySem.W.nsIn K mainGlobals "any" = some none)
    (z_tuple : PySem.W.nsIn K mainGlobals "tuple" = some none)
    (z_list : PySem.W.nsIn K mainGlobals "list" = some none)
    (z_set : PySem.W.nsIn K mainGlobals "set" = some none)
    (z_sorted : PySem.W.nsIn K mainGlobals "sorted" = some none)
    (z_int : PySem.W.nsIn K mainGlobals "int" = some none)
    (z_abs : PySem.W.nsIn K mainGlobals "abs" = some none)
    (z_divmod : PySem.W.nsIn K mainGlobals "divmod" = some none)
    (z_min : PySem.W.nsIn K mainGlobals "min" = some none)
    (z_max : PySem.W.nsIn K mainGlobals "max" = some none)
    (z_sum : PySem.W.nsIn K mainGlobals "sum" = some none)
    (z_isinstance : PySem.W.nsIn K mainGlobals "isinstance" = some none)
    (z_dict : PySem.W.nsIn K mainGlobals "dict" = some none)
    (z_str : PySem.W.nsIn K mainGlobals "str" = some none)
    (z_bool : PySem.W.nsIn K mainGlobals "bool" = some none)
    (z_range : PySem.W.nsIn K mainGlobals "range" = some none)
    (lt : ∀ ns : List Int, ns.length ≤ 63 → ∃ h', runC F45 1000000 n45.length b45 [.lst (ns.map CV.int)] [] = some (.bl true, h')) :
    ∃ fd : FuncData, (∀ (s : Shared) (v : Value), BindsTo s fd ⟨[v], []⟩ [("_law_script", v)]) ∧ ∀ base : Heap, K.In base → base.Ns mainGlobals mg → FnOk PySem.Challenge.pw_talehands_k06_whole_rows_behind_one_anot w K mg base CX0 20 fa fd ["_law_script"] (spLaw 63 K) := by
  have e := hfa.symm.trans (PySem.W.mg_of X G a45)
  cases e
  have H1 := fun_mk (st := s1) l1 c1 k1
  have H2 := fun_mk (st := s2) l2 c2 k2
  have H12 := fun_mk (st := s12) l12 c12 k12
  have H17 := fun_mk (st := s17) l17 c17 k17
  have H18 := fun_mk (st := s18) l18 c18 k18
  have H19 := fun_mk (st := s19) l19 c19 k19
  have H20 := fun_mk (st := s20) l20 c20 k20
  have H21 := fun_mk (st := s21) l21 c21 k21
  have H22 := fun_mk (st := s22) l22 c22 k22
  have H23 := fun_mk (st := s23) l23 c23 k23
  have H4 := fun_mk (st := s4) l4 c4 k4
  have H5 := fun_mk (st := s5) l5 c5 k5
  have H6 := fun_mk (st := s6) l6 c6 k6
  have H7 := fun_mk (st := s7) l7 c7 k7
  have H13 := fun_mk (st := s13) l13 c13 k13
  have H41 := fun_mk (st := s41) l41 c41 k41
  have H42 := fun_mk (st := s42) l42 c42 k42
  have H43 := fun_mk (st := s43) l43 c43 k43
  have H44 := fun_mk (st := s44) l44 c44 k44
  have H45 := fun_mk (st := s45) l45 c45 k45
  have B1 := H1.binds (ps := ["thing"]) fun _ _ _ _ _ _ us hl => match us, hl with | [_], _ => rfl
  have B2 := H2.binds (ps := ["thing"]) fun _ _ _ _ _ _ us hl => match us, hl with | [_], _ => rfl
  have B12 := H12.binds (ps := ["thing"]) fun _ _ _ _ _ _ us hl => match us, hl with | [_], _ => rfl
  have B17 := H17.binds (ps := ["deed"]) fun _ _ _ _ _ _ us hl => match us, hl with | [_], _ => rfl
  have B18 := H18.binds (ps := ["deed"]) fun _ _ _ _ _ _ us hl => match us, hl with | [_], _ => rfl
  have B19 := H19.binds (ps := ["row", "at"]) fun _ _ _ _ _ _ us hl => match us, hl with | [_, _], _ => rfl
  have B20 := H20.binds (ps := ["row"]) fun _ _ _ _ _ _ us hl => match us, hl with | [_], _ => rfl
  have B21 := H21.binds (ps := ["part"]) fun _ _ _ _ _ _ us hl => match us, hl with | [_], _ => rfl
  have B22 := H22.binds (ps := ["text"]) fun _ _ _ _ _ _ us hl => match us, hl with | [_], _ => rfl
  have B23 := H23.binds (ps := ["text"]) fun _ _ _ _ _ _ us hl => match us, hl with | [_], _ => rfl
  have B4 := H4.binds (ps := ["_law_cell"]) fun _ _ _ _ _ _ us hl => match us, hl with | [_], _ => rfl
  have B5 := H5.binds (ps := ["_law_pool_here", "_law_top"]) fun _ _ _ _ _ _ us hl => match us, hl with | [_, _], _ => rfl
  have B6 := H6.binds (ps := ["_law_pool_here", "_law_known"]) fun _ _ _ _ _ _ us hl => match us, hl with | [_, _], _ => rfl
  have B7 := H7.binds (ps := ["_law_pool_here", "_law_amount"]) fun _ _ _ _ _ _ us hl => match us, hl with | [_, _], _ => rfl
  have B13 := H13.binds (ps := ["_law_pool_here", "_law_hands_here", "_law_words", "_law_most"]) fun _ _ _ _ _ _ us hl => match us, hl with | [_, _, _, _], _ => rfl
  have B41 := H41.binds (ps := ["_law_row"]) fun _ _ _ _ _ _ us hl => match us, hl with | [_], _ => rfl
  have B42 := H42.binds (ps := ["_law_row", "_law_called_here"]) fun _ _ _ _ _ _ us hl => match us, hl with | [_, _], _ => rfl
  have B43 := H43.binds (ps := ["_law_text"]) fun _ _ _ _ _ _ us hl => match us, hl with | [_], _ => rfl
  have B44 := H44.binds (ps := ["_law_one", "_law_other", "_law_called_here"]) fun _ _ _ _ _ _ us hl => match us, hl with | [_, _, _], _ => rfl
  refine ⟨PySem.W.fnOf "law" "law" (defArgs s45) (defBody s45) (defScope s45) .none kV45 dc45 pm45 an45 cd45 ct45, fun s v => .of_eq rfl, fun base _ _ => ?_⟩
  have bl : ∀ x ∈ blNames, mg x = none := by
    intro x hx
    simp only [blNames, List.mem_cons, List.not_mem_nil, or_false] at hx
    rcases hx with rfl | rfl | rfl | rfl | rfl | rfl | rfl | rfl | rfl | rfl | rfl | rfl | rfl | rfl | rfl | rfl | rfl | rfl
    · exact PySem.W.mg_none_of X G z_len
    · exact PySem.W.mg_none_of X G z_all
    · exact PySem.W.mg_none_of X G z_any
    · exact PySem.W.mg_none_of X G z_tuple
    · exact PySem.W.mg_none_of X G z_list
    · exact PySem.W.mg_none_of X G z_set
    · exact PySem.W.mg_none_of X G z_sorted
    · exact PySem.W.mg_none_of X G z_int
    · exact PySem.W.mg_none_of X G z_abs
    · exact PySem.W.mg_none_of X G z_divmod
    · exact PySem.W.mg_none_of X G z_min
    · exact PySem.W.mg_none_of X G z_max
    · exact PySem.W.mg_none_of X G z_sum
    · exact PySem.W.mg_none_of X G z_isinstance
    · exact PySem.W.mg_none_of X G z_dict
    · exact PySem.W.mg_none_of X G z_str
    · exact PySem.W.mg_none_of X G z_bool
    · exact PySem.W.mg_none_of X G z_range
  have gl : ∀ p ∈ gv, ∃ u v, mg (Str.ofString p.1) = some u ∧ RelV v u ∧ ∀ r H, RV K r H p.2 v := by
    intro p hp
    simp only [gv, List.mem_cons, List.not_mem_nil, or_false] at hp
    rcases hp with rfl | rfl
    · exact gl_str (PySem.W.mg_of X G g_SMALL)
    · exact gl_int (PySem.W.mg_of X G g_MOST_LETTERS)
  have M0 : Md PySem.Challenge.pw_talehands_k06_whole_rows_behind_one_anot w K mg base [] gv F0 0 := md0 bl gl
  have M2 := M0.def 1 "is_name" H1 sc1 b1 1000000 ck1 (PySem.W.mg_of X G a1) B1
  have M3 := M2.def 2 "is_deed" H2 sc2 b2 1000000 ck2 (PySem.W.mg_of X G a2) B2
  have M13 := M3.def 12 "is_row" H12 sc12 b12 1000000 ck12 (PySem.W.mg_of X G a12) B12
  have M18 := M13.def 17 "taking_of" H17 sc17 b17 1000000 ck17 (PySem.W.mg_of X G a17) B17
  have M19 := M18.def 18 "show_deed" H18 sc18 b18 1000000 ck18 (PySem.W.mg_of X G a18) B18
  have M20 := M19.def 19 "is_both" H19 sc19 b19 1000000 ck19 (PySem.W.mg_of X G a19) B19
  have M21 := M20.def 20 "show_row" H20 sc20 b20 1000000 ck20 (PySem.W.mg_of X G a20) B20
  have M22 := M21.def 21 "deeds_in" H21 sc21 b21 1000000 ck21 (PySem.W.mg_of X G a21) B21
  have M23 := M22.def 22 "row_in" H22 sc22 b22 1000000 ck22 (PySem.W.mg_of X G a22) B22
  have M24 := M23.def 23 "read_row" H23 sc23 b23 1000000 ck23 (PySem.W.mg_of X G a23) B23
  have M5 := M24.def 4 "_law_pool" H4 sc4 b4 1000000 ck4 (PySem.W.mg_of X G a4) B4
  have M6 := M5.def 5 "_law_draw" H5 sc5 b5 1000000 ck5 (PySem.W.mg_of X G a5) B5
  have M7 := M6.def 6 "_law_name" H6 sc6 b6 1000000 ck6 (PySem.W.mg_of X G a6) B6
  have M8 := M7.def 7 "_law_hands" H7 sc7 b7 1000000 ck7 (PySem.W.mg_of X G a7) B7
  have M14 := M8.def 13 "_law_any_row" H13 sc13 b13 1000000 ck13 (PySem.W.mg_of X G a13) B13
  have M42 := M14.def 41 "_law_parts" H41 sc41 b41 1000000 ck41 (PySem.W.mg_of X G a41) B41
  have M43 := M42.def 42 "_law_called" H42 sc42 b42 1000000 ck42 (PySem.W.mg_of X G a42) B42
  have M44 := M43.def 43 "_law_signs" H43 sc43 b43 1000000 ck43 (PySem.W.mg_of X G a43) B43
  have M45 := M44.def 44 "_law_right" H44 sc44 b44 1000000 ck44 (PySem.W.mg_of X G a44) B44
  exact law_imp (def_ok M45 H45 sc45 1000000 ck45) lt
end
end TH.K06
open PySem PySem.W PyProof.Rows
set_option maxHeartbeats 0 in
theorem PySem.Challenge.cw_talehands_k06_whole_rows_behind_one_anot_holds : PySem.Challenge.rw_talehands_k06_whole_rows_behind_one_anot.Holds := by
  w_on; o_law; k_head; (case hw => w_witness2)
  k_fill
  refine L2.walk_of (l := PySem.Challenge.rw_talehands_k06_whole_rows_behind_one_anot) (n := 63) (k := 20) (x := "_law_script") (CX := fun _ => L2.CX0) (sp := fun w => TH.spLaw 63 _) rfl (by decide) rfl ⟨rfl, by decide, by decide⟩ (fun w h Y => PySem.W.kIn_of Y) ?F (fun _ _ a ns hl hO hS => ⟨a, ns, rfl, TH.lk_of hO hS, hl, fun _ => rfl⟩) (fun _ _ _ _ _ h => h)
  case F =>
    intro w mg fa h KX G hmg
    refine' TH.K06.all_mk KX G hmg ?a1 ?l1 ?c1 ?k1 ?a2 ?l2 ?c2 ?k2 ?a12 ?l12 ?c12 ?k12 ?a17 ?l17 ?c17 ?k17 ?a18 ?l18 ?c18 ?k18 ?a19 ?l19 ?c19 ?k19 ?a20 ?l20 ?c20 ?k20 ?a21 ?l21 ?c21 ?k21 ?a22 ?l22 ?c22 ?k22 ?a23 ?l23 ?c23 ?k23 ?a4 ?l4 ?c4 ?k4 ?a5 ?l5 ?c5 ?k5 ?a6 ?l6 ?c6 ?k6 ?a7 ?l7 ?c7 ?k7 ?a13 ?l13 ?c13 ?k13 ?a41 ?l41 ?c41 ?k41 ?a42 ?l42 ?c42 ?k42 ?a43 ?l43 ?c43 ?k43 ?a44 ?l44 ?c44 ?k44 ?a45 ?l45 ?c45 ?k45 ?g_SMALL ?g_MOST_LETTERS ?z_len ?z_all ?z_any ?z_tuple ?z_list ?z_set ?z_sorted ?z_int ?z_abs ?z_divmod ?z_min ?z_max ?z_sum ?z_isinstance ?z_dict ?z_str ?z_bool ?z_range TH.K06.law_true
    (case a1 => k_is); (case l1 => k_is); (case c1 => k_is); (case k1 => k_is); (case a2 => k_is); (case l2 => k_is); (case c2 => k_is); (case k2 => k_is); (case a12 => k_is); (case l12 => k_is); (case c12 => k_is); (case k12 => k_is); (case a17 => k_is); (case l17 => k_is); (case c17 => k_is); (case k17 => k_is); (case a18 => k_is); (case l18 => k_is); (case c18 => k_is); (case k18 => k_is); (case a19 => k_is); (case l19 => k_is); (case c19 => k_is); (case k19 => k_is); (case a20 => k_is); (case l20 => k_is); (case c20 => k_is); (case k20 => k_is); (case a21 => k_is); (case l21 => k_is); (case c21 => k_is); (case k21 => k_is); (case a22 => k_is); (case l22 => k_is); (case c22 => k_is); (case k22 => k_is); (case a23 => k_is); (case l23 => k_is); (case c23 => k_is); (case k23 => k_is); (case a4 => k_is); (case l4 => k_is); (case c4 => k_is); (case k4 => k_is); (case a5 => k_is); (case l5 => k_is); (case c5 => k_is); (case k5 => k_is); (case a6 => k_is); (case l6 => k_is); (case c6 => k_is); (case k6 => k_is); (case a7 => k_is); (case l7 => k_is); (case c7 => k_is); (case k7 => k_is); (case a13 => k_is); (case l13 => k_is); (case c13 => k_is); (case k13 => k_is); (case a41 => k_is); (case l41 => k_is); (case c41 => k_is); (case k41 => k_is); (case a42 => k_is); (case l42 => k_is); (case c42 => k_is); (case k42 => k_is); (case a43 => k_is); (case l43 => k_is); (case c43 => k_is); (case k43 => k_is); (case a44 => k_is); (case l44 => k_is); (case c44 => k_is); (case k44 => k_is); (case a45 => k_is); (case l45 => k_is); (case c45 => k_is); (case k45 => k_is); (case g_SMALL => k_is); (case g_MOST_LETTERS => k_is); (case z_len => k_is); (case z_all => k_is); (case z_any => k_is); (case z_tuple => k_is); (case z_list => k_is); (case z_set => k_is); (case z_sorted => k_is); (case z_int => k_is); (case z_abs => k_is); (case z_divmod => k_is); (case z_min => k_is); (case z_max => k_is); (case z_sum => k_is); (case z_isinstance => k_is); (case z_dict => k_is); (case z_str => k_is); (case z_bool => k_is); (case z_range => k_is)
